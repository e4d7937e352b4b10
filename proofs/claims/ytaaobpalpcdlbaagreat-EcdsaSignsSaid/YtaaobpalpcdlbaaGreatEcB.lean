namespace Go.EC
set_option linter.unusedVariables false

def Pr (p:Nat):Prop:=1<p/\∀ d,d∣p->d=1\/d=p

theorem Pr.euclid {p a b:Nat} (hp:Pr p) (h:p∣a*b):p∣a\/p∣b:=by
 rcases hp.2 _ (Nat.gcd_dvd_left p a) with e | e
 ·exact .inr ((show Nat.Coprime p a from e).dvd_of_dvd_mul_left h)
 ·exact .inl (e▸Nat.gcd_dvd_right p a)

def ch:Nat->Nat->Nat
 | _,0=>1
 | 0,_+1=>0
 | n+1,k+1=>ch n k+ch n (k+1)

theorem ch_mul:∀ n k,(k+1)*ch (n+1) (k+1)=(n+1)*ch n k
 | 0,0=>rfl
 | 0,k+1=>by simp [ch]
 | n+1,0=>by
  have:=ch_mul n 0
  simp only [ch] at *
  omega
 | n+1,k+1=>by
  have h1:=ch_mul n k
  have h2:=ch_mul n (k+1)
  have e1:ch (n+1+1) (k+1+1)=ch (n+1) (k+1)+ch (n+1) (k+1+1):=rfl
  have e2:ch (n+1) (k+1)=ch n k+ch n (k+1):=rfl
  generalize ch (n+1) (k+1+1)=A at *
  generalize ch (n+1) (k+1)=B at *
  generalize ch n (k+1)=D at *
  generalize ch n k=E at *
  rw [e1]
  grind
theorem ch_zero:∀ n k,n<k->ch n k=0
 | 0,k+1,_=>rfl
 | n+1,k+1,h=>by simp only [ch]; rw [ch_zero n k (by omega),ch_zero n (k+1) (by omega)]
theorem ch_self:∀ n,ch n n=1
 | 0=>rfl
 | n+1=>by simp only [ch]; rw [ch_self n,ch_zero n (n+1) (by omega)]

def bs (x n:Nat):Nat->Nat
 | 0=>0
 | m+1=>bs x n m+ch n m*x^m
theorem bs_step (x n:Nat):∀ m,bs x (n+1) (m+1)=bs x n (m+1)+x*bs x n m
 | 0=>by simp [bs,ch]
 | m+1=>by
  have:=bs_step x n m
  have e1:bs x (n+1) (m+1+1)=bs x (n+1) (m+1)+(ch n m+ch n (m+1))*x^(m+1):=rfl
  have e2:bs x n (m+1+1)=bs x n (m+1)+ch n (m+1)*x^(m+1):=rfl
  have e3:bs x n (m+1)=bs x n m+ch n m*x^m:=rfl
  rw [e1,this,e2,e3,Nat.pow_succ]
  grind
theorem bs_all (x:Nat):∀ n,(x+1)^n=bs x n (n+1)
 | 0=>rfl
 | n+1=>by
  rw [Nat.pow_succ,bs_all x n,bs_step x n (n+1)]
  have:bs x n (n+1+1)=bs x n (n+1):=by
   show bs x n (n+1)+ch n (n+1)*x^(n+1)=_
   rw [ch_zero n (n+1) (by omega)]; simp
  rw [this]; grind
theorem bs_mod {p:Nat} (hp:Pr p) (x:Nat):∀ m,0<m->m<=p->bs x p m%p=1
 | 0,h,_=>by omega
 | 1,_,_=>by have:=hp.1; simp [bs,ch,Nat.mod_eq_of_lt this]
 | m+2,_,h=>by
  have ih:=bs_mod hp x (m+1) (by omega) (by omega)
  have e:bs x p (m+2)=bs x p (m+1)+ch p (m+1)*x^(m+1):=rfl
  obtain ⟨q,hq⟩:∃ q,p=q+1:=⟨p-1,by have:=hp.1; omega⟩
  have d:p∣(m+1)*ch p (m+1):=by rw [hq,ch_mul]; exact ⟨_,rfl⟩
  have d2:p∣ch p (m+1):=by
   rcases hp.euclid d with z | z
   ·have:=Nat.le_of_dvd (by omega) z; omega
   ·exact z
  obtain ⟨c,hc⟩:=d2
  rw [e,hc,Nat.mul_assoc,Nat.add_mul_mod_self_left,ih]

theorem fermat {p:Nat} (hp:Pr p):∀ a,a^p%p=a%p
 | 0=>by have:=hp.1; rw [Nat.zero_pow (by omega)]
 | a+1=>by
  have e:bs a p (p+1)=bs a p p+a^p:=by
   show bs a p p+ch p p*a^p=_
   rw [ch_self,Nat.one_mul]
  rw [bs_all,e,Nat.add_mod,bs_mod hp a p (by have:=hp.1; omega) (Nat.le_refl _),fermat hp a,← Nat.add_mod_mod,Nat.mod_mod,Nat.add_mod_mod,Nat.add_comm]
theorem sub_dvd_of_mod {a b n:Nat} (h:a%n=b%n) (hl:b<=a):n∣a-b:=by
 have h1:=Nat.mod_add_div a n
 have h2:=Nat.mod_add_div b n
 refine ⟨a/n-b/n,?_⟩
 rw [Nat.mul_sub]
 omega
theorem fermat1 {p a:Nat} (hp:Pr p) (h:¬ p∣a):a^(p-1)%p=1:=by
 have p1:=hp.1
 have a0:0<a:=by
  rcases Nat.eq_zero_or_pos a with e | e
  ·subst e; exact absurd ⟨0,rfl⟩ h
  ·exact e
 have e:a^p=a*a^(p-1):=by
  have:=Nat.pow_succ' (n:=p-1) (m:=a)
  rwa [show (p-1).succ=p by omega] at this
 have g0:0<a^(p-1):=Nat.pow_pos a0
 have d:p∣a*(a^(p-1)-1):=by
  have:=sub_dvd_of_mod (fermat hp a) (by rw [e]; exact Nat.le_mul_of_pos_right _ g0)
  rw [e] at this
  rwa [Nat.mul_sub,Nat.mul_one]
 rcases hp.euclid d with z | ⟨c,hc⟩
 ·exact absurd z h
 ·have:a^(p-1)=1+p*c:=by omega
  rw [this,Nat.add_mul_mod_self_left,Nat.mod_eq_of_lt p1]

theorem pow_gcd {b r:Nat} (h1:1<r):∀ m n,b^m%r=1->b^n%r=1->b^(Nat.gcd m n)%r=1:=by
 intro m n
 induction m,n using Nat.gcd.induction with
 | H0 n=>intro _ h; simpa using h
 | H1 m n hm ih =>
  intro hm1 hn1
  rw [Nat.gcd_rec]
  refine ih ?_ hm1
  have e:b^n=(b^m)^(n/m)*b^(n%m):=by
   rw [← Nat.pow_mul,← Nat.pow_add,Nat.div_add_mod]
  rw [e,Nat.mul_mod,Nat.pow_mod,hm1,Nat.one_pow,Nat.mod_eq_of_lt h1,Nat.one_mul,Nat.mod_mod] at hn1
  exact hn1

theorem prime_div:∀ n,1<n->∃ r,Pr r/\r∣n:=by
 intro n
 induction n using Nat.strongRecOn with
 | ind n ih =>
  intro h
  by_cases hp:Pr n
  ·exact ⟨n,hp,Nat.dvd_refl n⟩
  ·have:∃ d,d∣n/\d≠1/\d≠n:=by
    apply Classical.byContradiction
    intro hc
    exact hp ⟨h,fun d hd=>Classical.byContradiction fun hk=>hc ⟨d,hd,fun e=>hk (.inl e),fun e=>hk (.inr e)⟩⟩
   obtain ⟨d,hd,h1,h2⟩:=this
   have hle:=Nat.le_of_dvd (by omega) hd
   have h0:d≠0:=by rintro rfl; obtain ⟨c,hc⟩:=hd; omega
   obtain ⟨r,hr,hrd⟩:=ih d (by omega) (by omega)
   exact ⟨r,hr,Nat.dvd_trans hrd hd⟩

def pm (N:Nat):Nat->Nat->Nat->Nat->Nat
 | 0,_,_,o=>o
 | f+1,a,e,o=>if e=0 then o else pm N f (a*a%N) (e/2) (if e%2=1 then o*a%N else o)
theorem pm_eq {N:Nat} (hN:1<N):∀ f a e o,e<2^f->pm N f a e o%N=o*a^e%N
 | 0,a,e,o,h=>by
  have:e=0:=by simpa using h
  subst this; simp [pm]
 | f+1,a,e,o,h=>by
  simp only [pm]
  split
  ·rename_i h0; subst h0; simp
  ·rw [pm_eq hN f _ _ _ (by rw [Nat.pow_succ] at h; omega)]
   have e1:(a*a%N)^(e/2)%N=(a^(2*(e/2)))%N:=by
    rw [← Nat.pow_mod,Nat.pow_mul,Nat.pow_two]
   split
   ·rename_i h1
    have:a^e=a*a^(2*(e/2)):=by
     have:=Nat.pow_succ' (n:=2*(e/2)) (m:=a)
     rwa [show (2*(e/2)).succ=e by omega] at this
    rw [this,Nat.mul_mod,e1,Nat.mod_mod,← Nat.mul_mod,Nat.mul_assoc]
   ·rename_i h1
    have:a^e=a^(2*(e/2)):=by rw [show 2*(e/2)=e by omega]
    rw [this,Nat.mul_mod,e1,← Nat.mul_mod]
theorem pm1 {N f a e r:Nat} (hN:1<N) (he:e<2^f) (h:pm N f a e 1%N=r):a^e%N=r:=by
 rw [pm_eq hN f a e 1 he,Nat.one_mul] at h; exact h

theorem pock_one {N q R a r:Nat} (hq:Pr q) (hR:N-1=q*R) (hN:1<N) (h1:a^(N-1)%N=1) (hg:Nat.gcd (a^R%N+(N-1)) N=1) (hr:Pr r) (hd:r∣N):q∣r-1:=by
 have r1:=hr.1
 have hb:(a^R)^q%r=1:=by
  rw [← Nat.pow_mul,Nat.mul_comm,← hR]
  obtain ⟨c,hc⟩:=hd
  rw [hc] at h1
  have:=congrArg (· % r) h1
  simp only [Nat.mod_mul_right_mod] at this
  rw [hc,this,Nat.mod_eq_of_lt r1]
 have hnb:¬ (a^R)%r=1:=by
  intro h
  have d1:r∣a^R%N+(N-1):=by
   obtain ⟨c,hc⟩:=hd
   have e1:a^R%N%r=1:=by rw [hc,Nat.mod_mul_right_mod]; exact h
   have c0:0<c:=by
    rcases Nat.eq_zero_or_pos c with e | e
    ·subst e; omega
    ·exact e
   have e2:N-1=r*(c-1)+(r-1):=by
    rw [hc,Nat.mul_sub]
    have:=Nat.le_mul_of_pos_right r c0
    omega
   apply Nat.dvd_of_mod_eq_zero
   rw [e2,← Nat.add_assoc,Nat.add_right_comm,Nat.add_mul_mod_self_left,Nat.add_mod,e1]
   rw [Nat.mod_eq_of_lt (show r-1<r by omega),show 1+(r-1)=r by omega,Nat.mod_self]
  have:=Nat.dvd_gcd d1 hd
  rw [hg] at this
  have:=Nat.le_of_dvd (by omega) this
  omega
 have hndv:¬ r∣a^R:=by
  intro h
  have:(a^R)^q%r=0:=by
   apply Nat.mod_eq_zero_of_dvd
   have hq1:=hq.1
   rw [show q=q-1+1 by omega,Nat.pow_succ]
   exact Nat.dvd_trans h ⟨_,Nat.mul_comm _ _⟩
  omega
 have hf:=fermat1 hr hndv
 have hgc:=pow_gcd r1 _ _ hb hf
 rcases hq.2 _ (Nat.gcd_dvd_left q (r-1)) with e | e
 ·rw [e,Nat.pow_one] at hgc; exact absurd hgc hnb
 ·rw [← e]; exact Nat.gcd_dvd_right q (r-1)

theorem pr_of {N F:Nat} (hN:1<N) (hF:N<=F*F) (h:∀ r,Pr r->r∣N->F∣r-1):Pr N:=by
 refine ⟨hN,fun d hd=>Classical.byContradiction fun hk=>?_⟩
 have key:∀ e,e∣N->e≠1->e*e<=N->False:=by
  intro e he h1 h2
  have e0:e≠0:=by rintro rfl; obtain ⟨c,hc⟩:=he; omega
  obtain ⟨r,hr,hre⟩:=prime_div e (by omega)
  have hF':=h r hr (Nat.dvd_trans hre he)
  have r1:=hr.1
  have l1:=Nat.le_of_dvd (by omega) hF'
  have l2:=Nat.le_of_dvd (by omega) hre
  have:F*F<e*e:=Nat.mul_lt_mul'' (by omega) (by omega)
  omega
 obtain ⟨c,hc⟩:=hd
 have hd1:d≠1:=fun e=>hk (.inl e)
 have hc1:c≠1:=by rintro rfl; exact hk (.inr (by omega))
 rcases Nat.le_total d c with l | l
 ·exact key d ⟨c,hc⟩ hd1 (by rw [hc]; exact Nat.mul_le_mul_left d l)
 ·exact key c ⟨d,by rw [hc,Nat.mul_comm]⟩ hc1 (by rw [hc]; exact Nat.mul_le_mul_right c l)

def ck (N q a:Nat):Bool:=Nat.blt 1 N&&Nat.beq (q*((N-1)/q)) (N-1)&&Nat.beq (pm N 256 a (N-1) 1%N) 1&&Nat.beq (Nat.gcd (pm N 256 a ((N-1)/q) 1%N+(N-1)) N) 1
theorem ck_ok {N q a r:Nat} (h:ck N q a=true) (hs:N<2^256) (hq:Pr q) (hr:Pr r) (hd:r∣N):q∣r-1:=by
 simp only [ck,Bool.and_eq_true] at h
 obtain ⟨⟨⟨h0,h1⟩,h2⟩,h3⟩:=h
 have h0:1<N:=by simpa [Nat.blt_eq] using h0
 have h1:=Nat.eq_of_beq_eq_true h1
 have h2:=Nat.eq_of_beq_eq_true h2
 have h3:=Nat.eq_of_beq_eq_true h3
 have hle:(N-1)/q<=N-1:=Nat.div_le_self _ _
 refine pock_one hq h1.symm h0 (pm1 h0 (by omega) h2) ?_ hr hd
 rwa [pm1 h0 (f:=256) (by omega) rfl]
theorem pr_one {N q a:Nat} (h:ck N q a=true) (hs:N<2^256) (hq:Pr q) (hF:N<=q*q):Pr N :=
 pr_of (by simp only [ck,Bool.and_eq_true] at h; simpa [Nat.blt_eq] using h.1.1.1) hF fun r hr hd=>ck_ok h hs hq hr hd
theorem pr_two {N q u a b:Nat} (h:ck N q a=true) (k:ck N u b=true) (hs:N<2^256) (hq:Pr q) (hu:Pr u) (hne:q≠u) (hF:N<=(q*u)*(q*u)):Pr N:=by
 refine pr_of (by simp only [ck,Bool.and_eq_true] at h; simpa [Nat.blt_eq] using h.1.1.1) hF fun r hr hd=>?_
 have d1:=ck_ok h hs hq hr hd
 have d2:=ck_ok k hs hu hr hd
 have cop:Nat.Coprime q u:=by
  rcases hq.2 _ (Nat.gcd_dvd_left q u) with e | e
  ·exact e
  ·have:q∣u:=e▸Nat.gcd_dvd_right q u
   rcases hu.2 _ this with z | z
   ·have:=hq.1; omega
   ·exact absurd z hne
 exact Nat.Coprime.mul_dvd_of_dvd_of_dvd cop d1 d2
def tr (n:Nat):Nat->Nat->Bool
 | 0,_=>true
 | f+1,d=>!Nat.beq (n%d) 0&&tr n f (d+1)
theorem tr_ok {n:Nat}:∀ f d,tr n f d=true->∀ e,d<=e->e<d+f->¬ e∣n
 | 0,d,_,e,h1,h2=>by omega
 | f+1,d,h,e,h1,h2=>by
  simp only [tr,Bool.and_eq_true] at h
  rcases Nat.eq_or_lt_of_le h1 with z | z
  ·subst z
   intro hd
   have:=Nat.mod_eq_zero_of_dvd hd
   have h3:=h.1
   rw [this] at h3
   cases h3
  ·exact tr_ok f (d+1) h.2 e z (by omega)
theorem pr_small {n:Nat} (f:Nat) (h1:1<n) (h:tr n f 2=true) (hf:n<(f+2)*(f+2)):Pr n:=by
 refine ⟨h1,fun d hd=>Classical.byContradiction fun hk=>?_⟩
 have key:∀ e,e∣n->e≠1->e*e<=n->False:=by
  intro e he h1 h2
  have e0:e≠0:=by rintro rfl; obtain ⟨c,hc⟩:=he; omega
  have:e<f+2:=by
   apply Classical.byContradiction
   intro hge
   have:=Nat.mul_le_mul (show f+2<=e by omega) (show f+2<=e by omega)
   omega
  exact tr_ok f 2 h e (by omega) (by omega) he
 obtain ⟨c,hc⟩:=hd
 have hd1:d≠1:=fun e=>hk (.inl e)
 have hc1:c≠1:=by rintro rfl; exact hk (.inr (by omega))
 rcases Nat.le_total d c with l | l
 ·exact key d ⟨c,hc⟩ hd1 (by rw [hc]; exact Nat.mul_le_mul_left d l)
 ·exact key c ⟨d,by rw [hc,Nat.mul_comm]⟩ hc1 (by rw [hc]; exact Nat.mul_le_mul_right c l)
theorem pr_991:Pr 991:=pr_small 32 (by decide) (by decide +kernel) (by decide +kernel)
theorem pr_103:Pr 103:=pr_small 11 (by decide) (by decide +kernel) (by decide +kernel)
theorem pr_8574133:Pr 8574133:=pr_two (q:=991) (u:=103) (a:=2) (b:=2) (by decide +kernel) (by decide +kernel) (by decide +kernel) pr_991 pr_103 (by decide) (by decide +kernel)
theorem pr_127:Pr 127:=pr_small 12 (by decide) (by decide +kernel) (by decide +kernel)
theorem pr_1919519569386763:Pr 1919519569386763:=pr_two (q:=8574133) (u:=127) (a:=2) (b:=2) (by decide +kernel) (by decide +kernel) (by decide +kernel) pr_8574133 pr_127 (by decide) (by decide +kernel)
theorem pr_569003:Pr 569003:=pr_small 755 (by decide) (by decide +kernel) (by decide +kernel)
theorem pr_2773320623:Pr 2773320623:=pr_one (q:=569003) (a:=2) (by decide +kernel) (by decide +kernel) pr_569003 (by decide +kernel)
theorem pr_72106336199:Pr 72106336199:=pr_one (q:=2773320623) (a:=2) (by decide +kernel) (by decide +kernel) pr_2773320623 (by decide +kernel)
theorem pr_75445702479781427272750846543864801:Pr 75445702479781427272750846543864801:=pr_two (q:=1919519569386763) (u:=72106336199) (a:=2) (b:=2) (by decide +kernel) (by decide +kernel) (by decide +kernel) pr_1919519569386763 pr_72106336199 (by decide) (by decide +kernel)
theorem pr_430751:Pr 430751:=pr_small 657 (by decide) (by decide +kernel) (by decide +kernel)
theorem pr_4153:Pr 4153:=pr_small 65 (by decide) (by decide +kernel) (by decide +kernel)
theorem pr_31757755568855353:Pr 31757755568855353:=pr_two (q:=430751) (u:=4153) (a:=2) (b:=2) (by decide +kernel) (by decide +kernel) (by decide +kernel) pr_430751 pr_4153 (by decide) (by decide +kernel)
theorem pr_74058212732561358302231226437062788676166966415465897661863160754340907:Pr 74058212732561358302231226437062788676166966415465897661863160754340907:=pr_two (q:=75445702479781427272750846543864801) (u:=31757755568855353) (a:=2) (b:=2) (by decide +kernel) (by decide +kernel) (by decide +kernel) pr_75445702479781427272750846543864801 pr_31757755568855353 (by decide) (by decide +kernel)
theorem pr_57896044618658097711785492504343953926634992332820282019728792003956564819949:Pr 57896044618658097711785492504343953926634992332820282019728792003956564819949:=pr_one (q:=74058212732561358302231226437062788676166966415465897661863160754340907) (a:=2) (by decide +kernel) (by decide +kernel) pr_74058212732561358302231226437062788676166966415465897661863160754340907 (by decide +kernel)
theorem pr_704251:Pr 704251:=pr_small 840 (by decide) (by decide +kernel) (by decide +kernel)
theorem pr_78283:Pr 78283:=pr_small 280 (by decide) (by decide +kernel) (by decide +kernel)
theorem pr_46076956964474543:Pr 46076956964474543:=pr_two (q:=704251) (u:=78283) (a:=2) (b:=2) (by decide +kernel) (by decide +kernel) (by decide +kernel) pr_704251 pr_78283 (by decide) (by decide +kernel)
theorem pr_3677:Pr 3677:=pr_small 61 (by decide) (by decide +kernel) (by decide +kernel)
theorem pr_197:Pr 197:=pr_small 15 (by decide) (by decide +kernel) (by decide +kernel)
theorem pr_66417393611:Pr 66417393611:=pr_two (q:=3677) (u:=197) (a:=2) (b:=2) (by decide +kernel) (by decide +kernel) (by decide +kernel) pr_3677 pr_197 (by decide) (by decide +kernel)
theorem pr_11290956913871:Pr 11290956913871:=pr_one (q:=66417393611) (a:=2) (by decide +kernel) (by decide +kernel) pr_66417393611 (by decide +kernel)
theorem pr_774023187263532362759620327192479577272145303:Pr 774023187263532362759620327192479577272145303:=pr_two (q:=46076956964474543) (u:=11290956913871) (a:=2) (b:=2) (by decide +kernel) (by decide +kernel) (by decide +kernel) pr_46076956964474543 pr_11290956913871 (by decide) (by decide +kernel)
theorem pr_835945042244614951780389953367877943453916927241:Pr 835945042244614951780389953367877943453916927241:=pr_one (q:=774023187263532362759620327192479577272145303) (a:=2) (by decide +kernel) (by decide +kernel) pr_774023187263532362759620327192479577272145303 (by decide +kernel)
theorem pr_115792089210356248762697446949407573530086143415290314195533631308867097853951:Pr 115792089210356248762697446949407573530086143415290314195533631308867097853951:=pr_one (q:=835945042244614951780389953367877943453916927241) (a:=2) (by decide +kernel) (by decide +kernel) pr_835945042244614951780389953367877943453916927241 (by decide +kernel)
theorem pr_155317:Pr 155317:=pr_small 395 (by decide) (by decide +kernel) (by decide +kernel)
theorem pr_191039911:Pr 191039911:=pr_one (q:=155317) (a:=2) (by decide +kernel) (by decide +kernel) pr_155317 (by decide +kernel)
theorem pr_3023:Pr 3023:=pr_small 55 (by decide) (by decide +kernel) (by decide +kernel)
theorem pr_208150935158385979:Pr 208150935158385979:=pr_two (q:=191039911) (u:=3023) (a:=2) (b:=2) (by decide +kernel) (by decide +kernel) (by decide +kernel) pr_191039911 pr_3023 (by decide) (by decide +kernel)
theorem pr_2624747550333869278416773953:Pr 2624747550333869278416773953:=pr_one (q:=208150935158385979) (a:=2) (by decide +kernel) (by decide +kernel) pr_208150935158385979 (by decide +kernel)
theorem pr_3969899:Pr 3969899:=pr_small 1993 (by decide) (by decide +kernel) (by decide +kernel)
theorem pr_1002328039319:Pr 1002328039319:=pr_one (q:=3969899) (a:=2) (by decide +kernel) (by decide +kernel) pr_3969899 (by decide +kernel)
theorem pr_115792089210356248762697446949407573529996955224135760342422259061068512044369:Pr 115792089210356248762697446949407573529996955224135760342422259061068512044369:=pr_two (q:=2624747550333869278416773953) (u:=1002328039319) (a:=2) (b:=2) (by decide +kernel) (by decide +kernel) (by decide +kernel) pr_2624747550333869278416773953 pr_1002328039319 (by decide) (by decide +kernel)
theorem pr_1224481:Pr 1224481:=pr_small 1107 (by decide) (by decide +kernel) (by decide +kernel)
theorem pr_531581:Pr 531581:=pr_small 730 (by decide) (by decide +kernel) (by decide +kernel)
theorem pr_1257559732178653:Pr 1257559732178653:=pr_two (q:=1224481) (u:=531581) (a:=2) (b:=2) (by decide +kernel) (by decide +kernel) (by decide +kernel) pr_1224481 pr_531581 (by decide) (by decide +kernel)
theorem pr_4434155615661930479:Pr 4434155615661930479:=pr_one (q:=1257559732178653) (a:=2) (by decide +kernel) (by decide +kernel) pr_1257559732178653 (by decide +kernel)
theorem pr_172054593956031949258510691:Pr 172054593956031949258510691:=pr_one (q:=4434155615661930479) (a:=2) (by decide +kernel) (by decide +kernel) pr_4434155615661930479 (by decide +kernel)
theorem pr_19757330305831588566944191468367130476339:Pr 19757330305831588566944191468367130476339:=pr_one (q:=172054593956031949258510691) (a:=2) (by decide +kernel) (by decide +kernel) pr_172054593956031949258510691 (by decide +kernel)
theorem pr_276602624281642239937218680557139826668747:Pr 276602624281642239937218680557139826668747:=pr_one (q:=19757330305831588566944191468367130476339) (a:=2) (by decide +kernel) (by decide +kernel) pr_19757330305831588566944191468367130476339 (by decide +kernel)
theorem pr_7237005577332262213973186563042994240857116359379907606001950938285454250989:Pr 7237005577332262213973186563042994240857116359379907606001950938285454250989:=pr_one (q:=276602624281642239937218680557139826668747) (a:=2) (by decide +kernel) (by decide +kernel) pr_276602624281642239937218680557139826668747 (by decide +kernel)
end Go.EC
