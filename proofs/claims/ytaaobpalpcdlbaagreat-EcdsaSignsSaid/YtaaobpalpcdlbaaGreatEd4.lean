import Derived.Test.YtaaobpalpcdlbaaGreatEd2
namespace Go.Proofs.YtaaobpalpcdlbaaGreat.Bits
open Go Go.Sx Go.RowKit Go.EC
set_option linter.unusedVariables false
set_option maxRecDepth 100000
def Cg (a b:Int):Prop:=∃ k,a-b=N2*k
theorem Cg.refl (a:Int):Cg a a:=⟨0,by omega⟩
theorem Cg.symm {a b:Int} (h:Cg a b):Cg b a:=by
 obtain ⟨k,hk⟩:=h; exact ⟨-k,by rw [Int.mul_neg]; omega⟩
theorem Cg.trans {a b c:Int} (h:Cg a b) (k:Cg b c):Cg a c:=by
 obtain ⟨x,hx⟩:=h; obtain ⟨y,hy⟩:=k; exact ⟨x+y,by rw [Int.mul_add]; omega⟩
theorem Cg.add {a b c d:Int} (h:Cg a b) (k:Cg c d):Cg (a+c) (b+d):=by
 obtain ⟨x,hx⟩:=h; obtain ⟨y,hy⟩:=k; exact ⟨x+y,by rw [Int.mul_add]; omega⟩
theorem Cg.neg {a b:Int} (h:Cg a b):Cg (-a) (-b):=by
 obtain ⟨x,hx⟩:=h; exact ⟨-x,by rw [Int.mul_neg]; omega⟩
theorem Cg.mul {a b c d:Int} (h:Cg a b) (k:Cg c d):Cg (a*c) (b*d):=by
 obtain ⟨x,hx⟩:=h; obtain ⟨y,hy⟩:=k
 refine ⟨x*c+b*y,?_⟩
 have ha:a=b+N2*x:=by omega
 have hc:c=d+N2*y:=by omega
 rw [ha,hc]
 generalize N2=n
 grind
theorem Cg.mod (a:Int):Cg (a%N2) a:=⟨-(a/N2),by have:=Int.emod_add_mul_ediv a N2; rw [Int.mul_neg]; omega⟩
theorem Cg.emod {a b:Int} (h:Cg a b):a%N2=b%N2:=by
 obtain ⟨k,hk⟩:=h
 rw [show a=b+N2*k by omega,Int.add_mul_emod_self_left]
theorem Cg.of_emod {a b:Int} (h:a%N2=b%N2):Cg a b:=(Cg.mod a).symm.trans (h▸Cg.mod b)
theorem Cg.small {a b:Int} (h:Cg a b) (ha:0<=a/\a<N2) (hb:0<=b/\b<N2):a=b:=by
 have:=h.emod
 rwa [Int.emod_eq_of_lt ha.1 ha.2,Int.emod_eq_of_lt hb.1 hb.2] at this
theorem N2_nat:N2=((n256:Nat):Int):=rfl
theorem mul_cg {a b:Int} {A:Pt p256} (hA:C256.on A) (ha:0<=a) (hb:0<=b) (h:Cg a b):C256.mul a.toNat A=C256.mul b.toNat A:=by
 obtain ⟨m,rfl⟩:=Int.eq_ofNat_of_zero_le ha
 obtain ⟨l,rfl⟩:=Int.eq_ofNat_of_zero_le hb
 have e:=h.emod
 rw [N2_nat] at e
 have e:m%n256=l%n256:=by exact_mod_cast e
 rw [Int.toNat_natCast,Int.toNat_natCast,← C256.mul_mod hA (order256 A hA) m,← C256.mul_mod hA (order256 A hA) l,e]
theorem G_ne:G256 ≠ .O:=by intro h; cases h
theorem cg_of_dvd {m:Nat} (h:n256∣m):Cg (m:Int) 0:=by
 obtain ⟨k,rfl⟩:=h
 exact ⟨k,by rw [N2_nat,Int.natCast_mul,Int.sub_zero]⟩
theorem mul_sub {a b:Nat} (hab:b<=a) (h:C256.mul a G256=C256.mul b G256):Cg (a:Int) (b:Int):=by
 rw [show a=b+(a-b) by omega,C256.mul_add G_on] at h
 have z:C256.mul (a-b) G256 = .O:=C256.add_left (C256.on_mul G_on b) (C256.on_mul G_on _) C256.on_O (by rw [h,C256.add_O])
 obtain ⟨k,hk⟩:=cg_of_dvd (C256.ord G_on prn256 nG G_ne z)
 exact ⟨k,by omega⟩
theorem mul_inj {a b:Int} (ha:0<=a) (hb:0<=b) (h:QF a=QF b):Cg a b:=by
 obtain ⟨m,rfl⟩:=Int.eq_ofNat_of_zero_le ha
 obtain ⟨l,rfl⟩:=Int.eq_ofNat_of_zero_le hb
 have h:C256.mul m G256=C256.mul l G256:=h
 rcases Nat.le_total l m with c | c
 ·exact mul_sub c h
 ·exact (mul_sub c h.symm).symm
theorem mul_negG {a b:Int} (ha:0<=a) (hb:0<=b) (h:QF a=(QF b).neg):Cg (a+b) 0:=by
 obtain ⟨m,rfl⟩:=Int.eq_ofNat_of_zero_le ha
 obtain ⟨l,rfl⟩:=Int.eq_ofNat_of_zero_le hb
 have h:C256.mul m G256=(C256.mul l G256).neg:=h
 have ol:=C256.on_mul G_on l
 have z:C256.mul (m+l) G256 = .O:=by
  rw [C256.mul_add G_on,h,C256.add_comm (C256.on_neg ol) ol,C256.add_neg]
 obtain ⟨k,hk⟩:=cg_of_dvd (C256.ord G_on prn256 nG G_ne z)
 exact ⟨k,by omega⟩
theorem sameX {A B:Pt p256} (hA:C256.on A) (hB:C256.on B) (a0:cB A=false) (b0:cB B=false) (h:cX A=cX B):A=B\/A=B.neg:=by
 cases A with
 | O=>cases a0
 | A x1 y1=>cases B with
  | O=>cases b0
  | A x2 y2 =>
   have h:(x1.val:Int)=(x2.val:Int):=h
   obtain rfl:x1=x2:=Fin.ext (by exact_mod_cast h)
   rcases C256.eq_neg_or hA hB with e | e
   ·exact .inl (by rw [e])
   ·refine .inr ?_
    have:y1 = -y2:=by grind -lia
    rw [this]; rfl
theorem sec_iff {d:Int} (h:secF d=true):d≠0/\d<N2:=by
 unfold secF at h
 rw [Bool.and_eq_true] at h
 exact ⟨by simpa using h.1,of_decide_eq_true h.2⟩
theorem sec_of {d:Int} (h:d≠0) (h2:d<N2):secF d=true:=by
 unfold secF
 rw [decide_eq_false h,decide_eq_true h2]; rfl
theorem Q_on (k:Int):C256.on (QF k):=C256.on_mul G_on _
theorem Q_ne {k:Int} (h0:0<=k) (h:secF k=true):cB (QF k)=false:=by
 obtain ⟨h1,h2⟩:=sec_iff h
 cases hq:QF k with
 | A x y=>rfl
 | O =>
  exfalso
  have:QF k=QF 0:=hq
  have:=(mul_inj h0 (by omega) this).small ⟨h0,h2⟩ ⟨by omega,by decide⟩
  exact h1 this
theorem inv_N {s:Int} (h0:0<=s) (h:secF s=true):Cg (s*invF s N2) 1/\0<=invF s N2/\invF s N2<N2:=by
 obtain ⟨h1,h2⟩:=sec_iff h
 have d:=pow_invP (P:=N2) (p:=n256) prn256 rfl h0 (by rw [Int.emod_eq_of_lt h0 h2]; exact h1)
 have e:invF s N2=s^(n256-2)%N2:=invF_eq (inN _).1 (inN _).2 d
 refine ⟨?_,e▸inN _⟩
 obtain ⟨k,hk⟩:=d
 exact ⟨k,by rw [e]; exact hk⟩
theorem nI_cg (a b:Int):Cg (nI a b) (a*b):=Cg.mod _
theorem nI_in (a b:Int):0<=nI a b/\nI a b<N2:=inN _
theorem BF_Q {u v d:Int} (hu:0<=u) (hv:0<=v) (hd:0<=d):BF u v (QF d)=QF (u+v*d):=by
 obtain ⟨a,rfl⟩:=Int.eq_ofNat_of_zero_le hu
 obtain ⟨b,rfl⟩:=Int.eq_ofNat_of_zero_le hv
 obtain ⟨c,rfl⟩:=Int.eq_ofNat_of_zero_le hd
 have e:((a:Int)+(b:Int)*(c:Int)).toNat=a+b*c:=by rw [← Int.natCast_mul,← Int.natCast_add,Int.toNat_natCast]
 unfold BF QF
 rw [e,Int.toNat_natCast,Int.toNat_natCast,Int.toNat_natCast,C256.mul_add G_on,C256.mul_mul G_on]
theorem vk_Q {d z r s t:Int} (hd:0<=d) (ht:0<=t) (h:Cg t (invF s N2*(z+r*d))):vkF (QF d) z r s=QF t:=by
 unfold vkF
 have u:=nI_in z (invF s N2)
 have v:=nI_in r (invF s N2)
 rw [BF_Q u.1 v.1 hd]
 refine mul_cg G_on (Int.add_nonneg u.1 (Int.mul_nonneg v.1 hd)) ht ?_
 refine Cg.trans ?_ h.symm
 have:=(nI_cg z (invF s N2)).add ((nI_cg r (invF s N2)).mul (Cg.refl d))
 rwa [show z*invF s N2+r*invF s N2*d=invF s N2*(z+r*d) by grind] at this
theorem ks_cg {d k z:Int} (hk:0<=k) (sk:secF k=true):Cg (ksF d k z*k) (z+krF k*d):=by
 obtain ⟨ik,_⟩:=inv_N hk sk
 have a:Cg (ksF d k z) (invF k N2*(z+krF k*d)):=by
  refine (nI_cg _ _).trans ((Cg.refl _).mul ((Cg.mod _).trans ((Cg.refl z).add (nI_cg _ _))))
 have b:=(a.mul (Cg.refl k)).trans (b:=invF k N2*(z+krF k*d)*k) (Cg.refl _)
 have c:=ik.mul (Cg.refl (z+krF k*d))
 rw [Int.one_mul,show k*invF k N2*(z+krF k*d)=invF k N2*(z+krF k*d)*k by grind] at c
 exact b.trans c
theorem sign_vk {d k z:Int} (hd:0<=d) (hk:0<=k) (sk:secF k=true) (ss:secF (ksF d k z)=true):vkF (QF d) z (krF k) (ksF d k z)=QF k:=by
 have hs:0<=ksF d k z:=(nI_in _ _).1
 obtain ⟨is,_⟩:=inv_N hs ss
 refine vk_Q hd hk ?_
 have a:=(Cg.refl (invF (ksF d k z) N2)).mul (ks_cg (d:=d) (z:=z) hk sk)
 refine Cg.trans ?_ a
 have b:=is.mul (Cg.refl k)
 rw [Int.one_mul,show ksF d k z*invF (ksF d k z) N2*k=invF (ksF d k z) N2*(ksF d k z*k) by grind] at b
 exact b.symm
theorem sign_other {d k z y:Int} (hd:0<=d) (hk:0<=k) (hz:0<=z) (hy:0<=y) (sk:secF k=true) (ss:secF (ksF d k z)=true) (ob:cB (vkF (QF d) y (krF k) (ksF d k z))=false) (ox:cX (vkF (QF d) y (krF k) (ksF d k z))=cX (QF k)) :
  Cg y z\/Cg (z+y+2*(krF k*d)) 0:=by
 have hs:0<=ksF d k z:=(nI_in _ _).1
 have hr:0<=krF k:=(inN _).1
 obtain ⟨is,iw,_⟩:=inv_N hs ss
 have ht:0<=invF (ksF d k z) N2*(y+krF k*d):=Int.mul_nonneg iw (Int.add_nonneg hy (Int.mul_nonneg hr hd))
 have e:=vk_Q (d:=d) (z:=y) (r:=krF k) (s:=ksF d k z) hd ht (Cg.refl _)
 rw [e] at ob ox
 have kk:=ks_cg (d:=d) (z:=z) hk sk
 have up:∀ {a b:Int},Cg (invF (ksF d k z) N2*a) b->Cg a (ksF d k z*b):=fun {a b} h=>by
  have x:=(Cg.refl (ksF d k z)).mul h
  have y:=is.mul (Cg.refl a)
  rw [Int.one_mul,show ksF d k z*invF (ksF d k z) N2*a=ksF d k z*(invF (ksF d k z) N2*a) by grind] at y
  exact y.symm.trans x
 rcases sameX (Q_on _) (Q_on k) ob (Q_ne hk sk) ox with h | h
 ·left
  have a:=(up (mul_inj ht hk h)).trans kk
  have b:=a.add (Cg.refl (-(krF k*d)))
  rwa [show y+krF k*d + -(krF k*d)=y by omega,show z+krF k*d + -(krF k*d)=z by omega] at b
 ·right
  have a:=mul_negG ht hk h
  have b:Cg (invF (ksF d k z) N2*(y+krF k*d)) (-k):=by
   have:=a.add (Cg.refl (-k))
   rwa [show invF (ksF d k z) N2*(y+krF k*d)+k + -k=invF (ksF d k z) N2*(y+krF k*d) by omega,Int.zero_add] at this
  have c:=up b
  have e:ksF d k z * -k = -(ksF d k z*k):=Int.mul_neg _ _
  rw [e] at c
  have f:=(c.trans kk.neg).add (Cg.refl (z+krF k*d))
  rwa [show -(z+krF k*d)+(z+krF k*d)=0 by omega,show y+krF k*d+(z+krF k*d)=z+y+2*(krF k*d) by omega] at f
theorem mul_neg_n {u:Int} {A:Pt p256} (hA:C256.on A) (h0:0<=u) {v:Int} (hv:0<=v) (h:Cg (u+v) 0):C256.mul v.toNat A=(C256.mul u.toNat A).neg:=by
 have e:=mul_cg hA (Int.add_nonneg h0 hv) (Int.le_refl 0) h
 have e2:(u+v).toNat=u.toNat+v.toNat:=by omega
 rw [e2,C256.mul_add hA] at e
 exact C256.neg_unique (C256.on_mul hA _) (C256.on_mul hA _) e
theorem inv_neg {s:Int} (h0:0<=s) (h:secF s=true):Cg (invF s N2+invF ((0-s)%N2) N2) 0/\secF ((0-s)%N2)=true:=by
 obtain ⟨h1,h2⟩:=sec_iff h
 have e:(0-s)%N2=N2-s:=by
  have a:Cg (0-s) (N2-s):=⟨-1,by omega⟩
  rw [a.emod]; exact Int.emod_eq_of_lt (by omega) (by omega)
 have hs:secF ((0-s)%N2)=true:=sec_of (by omega) (by omega)
 refine ⟨?_,hs⟩
 have i1:=(inv_N h0 h).1
 have i2:=(inv_N (by omega) hs).1
 have c:Cg ((0-s)%N2) (-s):=by have:=Cg.mod (0-s); rwa [Int.zero_sub] at this ⊢
 -- s (i+i')=1-1
 have a:Cg (s*(invF s N2+invF ((0-s)%N2) N2)) 0:=by
  have x:=(c.symm.mul (Cg.refl (invF ((0-s)%N2) N2))).trans i2
  have y:=i1.add x.neg
  rwa [show (1:Int) + -1=0 by omega,show s*invF s N2 + -(-s*invF ((0-s)%N2) N2)=s*(invF s N2+invF ((0-s)%N2) N2) by grind] at y
 have b:=(Cg.refl (invF s N2)).mul a
 rw [Int.mul_zero] at b
 have d:=i1.mul (Cg.refl (invF s N2+invF ((0-s)%N2) N2))
 rw [Int.one_mul,show s*invF s N2*(invF s N2+invF ((0-s)%N2) N2)=invF s N2*(s*(invF s N2+invF ((0-s)%N2) N2)) by grind] at d
 exact d.symm.trans b
theorem vk_neg {A:Pt p256} {z r s:Int} (hA:C256.on A) (hz:0<=z) (hr:0<=r) (h0:0<=s) (h:secF s=true):vkF A z r ((0-s)%N2)=(vkF A z r s).neg:=by
 obtain ⟨i,hs⟩:=inv_neg h0 h
 have k:∀ x,Cg (nI x (invF s N2)+nI x (invF ((0-s)%N2) N2)) 0:=fun x=>by
  have a:=(nI_cg x (invF s N2)).add (nI_cg x (invF ((0-s)%N2) N2))
  rw [← Int.mul_add] at a
  have b:=a.trans ((Cg.refl x).mul i)
  rwa [Int.mul_zero] at b
 unfold vkF BF
 rw [mul_neg_n G_on (nI_in z (invF s N2)).1 (nI_in z (invF ((0-s)%N2) N2)).1 (k z),mul_neg_n hA (nI_in r (invF s N2)).1 (nI_in r (invF ((0-s)%N2) N2)).1 (k r),← C256.neg_add (C256.on_mul G_on _) (C256.on_mul hA _)]
theorem che_neg {X Y:Int} {i:Bool} {t:ByteArray} {r s:Int} (hr:0<=r) (h0:0<=s) (h:secF s=true):chE X Y i t r ((0-s)%N2)=chE X Y i t r s:=by
 have hs:=(inv_neg h0 h).2
 unfold chE
 rw [h,hs]
 by_cases ho:onP X Y i=true
 ·rw [vk_neg (on_pP ho) (beF_in t).1 hr h0 h,(neg_c2 _).1,(neg_c2 _).2]
 ·have:onP X Y i=false:=by simpa using ho
  rw [this]; simp
theorem lo_neg {r s:Int} (h0:0<=s) (hr:secF r=true) (h:secF s=true):loS r ((0-s)%N2)=loS r s:=by
 obtain ⟨h1,h2⟩:=sec_iff h
 obtain ⟨_,r2⟩:=sec_iff hr
 have e:(0-s)%N2=N2-s:=by
  have a:Cg (0-s) (N2-s):=⟨-1,by omega⟩
  rw [a.emod]; exact Int.emod_eq_of_lt (by omega) (by omega)
 have e2:(0-(N2-s))%N2=s:=by
  have a:Cg (0-(N2-s)) s:=⟨-1,by omega⟩
  rw [a.emod]; exact Int.emod_eq_of_lt (by omega) (by omega)
 unfold loS
 rw [e,e2]
 have odd:N2%2=1:=by decide
 by_cases c:N2-s<s
 ·rw [if_neg (fun z=>by omega),if_pos ⟨r2,h2,c⟩]
 ·rw [if_pos ⟨r2,by omega,by omega⟩,if_neg (fun z=>c z.2.2)]
end Go.Proofs.YtaaobpalpcdlbaaGreat.Bits
