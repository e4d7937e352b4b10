import Derived.Test.YtaaobpalpcdlbaaGreatEcA
import Derived.Test.YtaaobpalpcdlbaaGreatEcB
namespace Go.EC
set_option linter.unusedVariables false

def pinv {p:Nat} [NeZero p] (x:Fin p):Fin p:=Fin.ofNat p (x.val^(p-2))
theorem pinv_mul {p:Nat} [NeZero p] (hp:Pr p) (x:Fin p) (hx:x≠0):pinv x*x=1:=by
 have p1:=hp.1
 apply Fin.ext
 rw [Fin.val_mul]
 have h:¬ p∣x.val:=by
  intro h
  have:=Nat.eq_zero_of_dvd_of_lt h x.isLt
  exact hx (Fin.ext (by simpa using this))
 have e:x.val^(p-2)*x.val=x.val^(p-1):=by
  rw [← Nat.pow_succ,show (p-2).succ=p-1 by omega]
 have e2:(pinv x).val=x.val^(p-2)%p:=rfl
 have e3:((1:Fin p):Nat)=1%p:=rfl
 rw [e2,Nat.mod_mul_mod,e,fermat1 hp h,e3,Nat.mod_eq_of_lt p1]


def Cv.mul {p:Nat} [NeZero p] (C:Cv p):Nat->Pt p->Pt p
 | 0,_ => .O
 | n+1,P=>C.add (C.mul n P) P
theorem Cv.O_add {p:Nat} [NeZero p] (C:Cv p) (P:Pt p):C.add .O P=P:=by cases P<;>rfl
theorem Cv.add_O {p:Nat} [NeZero p] (C:Cv p) (P:Pt p):C.add P .O=P:=by cases P<;>rfl
theorem Cv.on_O {p:Nat} [NeZero p] (C:Cv p):C.on (.O:Pt p):=trivial
theorem Cv.on_mul {p:Nat} [NeZero p] (C:Cv p) {P:Pt p} (h:C.on P):∀ n,C.on (C.mul n P)
 | 0=>trivial
 | n+1=>C.on_add (C.on_mul h n) h
theorem Cv.mul_one {p:Nat} [NeZero p] (C:Cv p) (P:Pt p):C.mul 1 P=P:=C.O_add P
theorem Cv.mul_O {p:Nat} [NeZero p] (C:Cv p):∀ n,C.mul n (.O:Pt p) = .O
 | 0=>rfl
 | n+1=>by show C.add (C.mul n .O) .O = .O; rw [C.mul_O n]; rfl
theorem Cv.mul_add {p:Nat} [NeZero p] (C:Cv p) {P:Pt p} (h:C.on P) (m:Nat):∀ n,C.mul (m+n) P=C.add (C.mul m P) (C.mul n P)
 | 0=>(C.add_O _).symm
 | n+1=>by
  show C.add (C.mul (m+n) P) P=C.add (C.mul m P) (C.add (C.mul n P) P)
  rw [C.mul_add h m n,C.add_assoc (C.on_mul h m) (C.on_mul h n) h]
theorem Cv.mul_mul {p:Nat} [NeZero p] (C:Cv p) {P:Pt p} (h:C.on P) (n:Nat):∀ m,C.mul (m*n) P=C.mul m (C.mul n P)
 | 0=>by rw [Nat.zero_mul]; rfl
 | m+1=>by
  rw [Nat.succ_mul,C.mul_add h,C.mul_mul h n m]; rfl
theorem Cv.mul_comm {p:Nat} [NeZero p] (C:Cv p) {P:Pt p} (h:C.on P) (m n:Nat):C.mul m (C.mul n P)=C.mul n (C.mul m P):=by
 rw [← C.mul_mul h,← C.mul_mul h,Nat.mul_comm]
theorem Cv.add_swap {p:Nat} [NeZero p] (C:Cv p) {P Q R S:Pt p} (hP:C.on P) (hQ:C.on Q) (hR:C.on R) (hS:C.on S):C.add (C.add P Q) (C.add R S)=C.add (C.add P R) (C.add Q S):=by
 rw [C.add_assoc hP hQ (C.on_add hR hS),← C.add_assoc hQ hR hS,C.add_comm hQ hR,C.add_assoc hR hQ hS,← C.add_assoc hP hR (C.on_add hQ hS)]
theorem Cv.mul_dist {p:Nat} [NeZero p] (C:Cv p) {P Q:Pt p} (hP:C.on P) (hQ:C.on Q):∀ n,C.mul n (C.add P Q)=C.add (C.mul n P) (C.mul n Q)
 | 0=>rfl
 | n+1=>by
  show C.add (C.mul n (C.add P Q)) (C.add P Q)=_
  rw [C.mul_dist hP hQ n,C.add_swap (C.on_mul hP n) (C.on_mul hQ n) hP hQ]; rfl
theorem Cv.mul_neg {p:Nat} [NeZero p] (C:Cv p) {P:Pt p} (h:C.on P):∀ n,C.mul n P.neg=(C.mul n P).neg
 | 0=>rfl
 | n+1=>by
  show C.add (C.mul n P.neg) P.neg=(C.add (C.mul n P) P).neg
  rw [C.mul_neg h n,C.neg_add (C.on_mul h n) h]
theorem Cv.neg_unique {p:Nat} [NeZero p] (C:Cv p) {P Q:Pt p} (hP:C.on P) (hQ:C.on Q) (h:C.add P Q = .O):Q=P.neg:=by
 have:=C.neg_add_cancel hP hQ
 rw [h,C.add_O] at this
 exact this.symm

theorem Cv.ord {p:Nat} [NeZero p] (C:Cv p) {G:Pt p} {n:Nat} (hG:C.on G) (hn:Pr n) (h:C.mul n G = .O) (h0:G ≠ .O) {i:Nat} (hi:C.mul i G = .O):n∣i:=by
 have key:∀ a b,C.mul a G = .O->C.mul b G = .O->C.mul (Nat.gcd a b) G = .O:=by
  intro a b
  induction a,b using Nat.gcd.induction with
  | H0 b=>intro _ hb; simpa using hb
  | H1 a b ha ih =>
   intro h1 h2
   rw [Nat.gcd_rec]
   refine ih ?_ h1
   rw [show b=a*(b/a)+b%a from (Nat.div_add_mod b a).symm,C.mul_add hG,Nat.mul_comm a,C.mul_mul hG,h1,C.mul_O,C.O_add] at h2
   exact h2
 have k:=key n i h hi
 rcases hn.2 _ (Nat.gcd_dvd_left n i) with e | e
 ·rw [e,C.mul_one] at k; exact absurd k h0
 ·exact e▸Nat.gcd_dvd_right n i
theorem Cv.mul_mod {p:Nat} [NeZero p] (C:Cv p) {G:Pt p} {n:Nat} (hG:C.on G) (h:C.mul n G = .O) (i:Nat):C.mul (i%n) G=C.mul i G:=by
 have:C.mul i G=C.mul (n*(i/n)+i%n) G:=by rw [Nat.div_add_mod]
 rw [this,C.mul_add hG,Nat.mul_comm n,C.mul_mul hG,h,C.mul_O,C.O_add]

def Cv.code {p:Nat} [NeZero p] (C:Cv p):Pt p->Nat
 | .O=>0
 | .A x y=>1+2*x.val+(if y.val<(-y).val then 1 else 0)
theorem Cv.code_lt {p:Nat} [NeZero p] (C:Cv p) (P:Pt p):C.code P<2*p+1:=by
 cases P with
 | O=>simp [Cv.code]
 | A x y=>simp only [Cv.code]; have:=x.isLt; split<;>omega
theorem Cv.code_inj {p:Nat} [NeZero p] (C:Cv p) {P Q:Pt p} (hP:C.on P) (hQ:C.on Q) (h:C.code P=C.code Q):P=Q:=by
 cases P with
 | O=>cases Q with
  | O=>rfl
  | A x y=>simp only [Cv.code] at h; omega
 | A x1 y1=>cases Q with
  | O=>simp only [Cv.code] at h; omega
  | A x2 y2 =>
   simp only [Cv.code] at h
   have hx:x1.val=x2.val:=by split at h<;>split at h<;>omega
   have hx:=Fin.ext hx
   subst hx
   simp only [Cv.on] at hP hQ
   have e:(y1-y2)*(y1+y2)=0:=by grind -lia
   by_cases z:y1-y2=0
   ·rw [eq_of_sub z]
   ·have e2:=C.nz e z
    have e3:y1 = -y2:=by grind -lia
    have e4 : -y1=y2:=by grind -lia
    rw [e4] at h
    rw [e3] at h
    have:(-y2).val=y2.val:=by split at h<;>split at h<;>omega
    rw [e3,Fin.ext this]

theorem pigeon:∀ (k:Nat) (f:Nat->Nat),(∀ i,i<=k->f i<k)->∃ i j,i<j/\j<=k/\f i=f j
 | 0,f,h=>by have:=h 0 (Nat.le_refl _); omega
 | k+1,f,h=>by
  by_cases e:∃ i,i<=k/\f i=f (k+1)
  ·obtain ⟨i,h1,h2⟩:=e
   exact ⟨i,k+1,by omega,Nat.le_refl _,h2⟩
  ·have hne:∀ i,i<=k->f i≠f (k+1):=fun i hi z=>e ⟨i,hi,z⟩
   obtain ⟨i,j,h1,h2,h3⟩:=pigeon k (fun i=>if f i > f (k+1) then f i-1 else f i) (by
    intro i hi
    have a:=h i (by omega)
    have b:=h (k+1) (Nat.le_refl _)
    have c:=hne i hi
    show (if f i > f (k+1) then f i-1 else f i)<k
    split<;>omega)
   refine ⟨i,j,h1,by omega,?_⟩
   have a:=hne i (by omega)
   have b:=hne j h2
   change (if f i > f (k+1) then f i-1 else f i)=(if f j > f (k+1) then f j-1 else f j) at h3
   split at h3<;>split at h3<;>omega

theorem Cv.cyclic {p:Nat} [NeZero p] (C:Cv p) {G:Pt p} {n:Nat} (hG:C.on G) (hn:Pr n) (h:C.mul n G = .O) (h0:G ≠ .O) (hodd:n%2=1) (h3:2*p+1<3*n) (h2:∀ P:Pt p,C.on P->C.add P P = .O->P = .O)
  (P:Pt p) (hP:C.on P):∃ i,P=C.mul i G:=by
 apply Classical.byContradiction
 intro hno
 have hno:∀ i,P≠C.mul i G:=fun i e=>hno ⟨i,e⟩
 have n1:=hn.1
 have oP:=hP
 have oM:=C.on_mul hG
 have oPP:=C.on_add hP hP
 -- the neighbour of a multiple
 have ng:∀ j,(C.mul j G).neg=C.mul ((n-1)*j) G:=by
  intro j
  refine (C.neg_unique (oM j) (oM _) ?_).symm
  rw [← C.mul_add hG,show j+(n-1)*j=j*n by rw [Nat.sub_mul]; have:=Nat.le_mul_of_pos_left j (show 0<n by omega); rw [Nat.mul_comm j n]; omega,C.mul_mul hG,h,C.mul_O]
 have same:∀ Q:Pt p,C.on Q->∀ i j,i<j->j<n->C.add Q (C.mul i G)=C.add Q (C.mul j G)->False:=by
  intro Q hQ i j h1 h4 e
  have e:=C.add_left hQ (oM i) (oM j) e
  rw [show j=i+(j-i) by omega,C.mul_add hG] at e
  have e:C.mul (j-i) G = .O:=by
   refine C.add_left (oM i) (oM _) C.on_O ?_
   rw [← e,C.add_O]
  have:=Nat.le_of_dvd (by omega) (C.ord hG hn h h0 e)
  omega
 have l1:∀ i j,C.mul i G≠C.add P (C.mul j G):=by
  intro i j e
  refine hno (i+(n-1)*j) ?_
  rw [C.mul_add hG,← ng,e,C.add_assoc hP (oM j) (C.on_neg (oM j)),C.add_neg,C.add_O]
 have l2:∀ i j,C.add P (C.mul i G)≠C.add (C.add P P) (C.mul j G):=by
  intro i j e
  rw [C.add_assoc hP hP (oM j)] at e
  exact l1 i j (C.add_left hP (oM i) (C.on_add hP (oM j)) e)
 have l3:∀ i j,C.mul i G≠C.add (C.add P P) (C.mul j G):=by
  intro i j e
  have e1:C.add P P=C.mul (i+(n-1)*j) G:=by
   rw [C.mul_add hG,← ng,e,C.add_assoc oPP (oM j) (C.on_neg (oM j)),C.add_neg,C.add_O]
  generalize i+(n-1)*j=k at e1
  have:∃ m,C.mul k G=C.add (C.mul m G) (C.mul m G):=by
   rcases Nat.mod_two_eq_zero_or_one k with z | z
   ·exact ⟨k/2,by rw [← C.mul_add hG,show k/2+k/2=k by omega]⟩
   ·exact ⟨(k+n)/2,by rw [← C.mul_add hG,show (k+n)/2+(k+n)/2=k+n by omega,C.mul_add hG,h,C.add_O]⟩
  obtain ⟨m,hm⟩:=this
  rw [hm] at e1
  refine hno m ?_
  have oN:=C.on_neg (oM m)
  have z:=h2 (C.add P (C.mul m G).neg) (C.on_add hP oN) (by
   rw [C.add_swap hP oN hP oN,e1,← C.neg_add (oM m) (oM m),C.add_neg])
  have z:=C.neg_unique hP oN z
  have:=congrArg Pt.neg z
  rw [Pt.neg_neg,Pt.neg_neg] at this
  exact this.symm
 let q:Nat->Pt p:=fun i=>if i<n then C.add .O (C.mul i G) else if i<2*n then C.add P (C.mul (i-n) G) else C.add (C.add P P) (C.mul (i-2*n) G)
 have oq:∀ i,C.on (q i):=by
  intro i
  show C.on (if i<n then C.add .O (C.mul i G) else if i<2*n then C.add P (C.mul (i-n) G) else C.add (C.add P P) (C.mul (i-2*n) G))
  split
  ·exact C.on_add C.on_O (oM _)
  ·split
   ·exact C.on_add hP (oM _)
   ·exact C.on_add oPP (oM _)
 obtain ⟨i,j,h1,h4,h5⟩:=pigeon (2*p+1) (fun i=>C.code (q i)) fun i _=>C.code_lt _
 have e:=C.code_inj (oq i) (oq j) h5
 have q0:∀ i,i<n->q i=C.add .O (C.mul i G):=fun i hi=>if_pos hi
 have q1:∀ i,¬ i<n->i<2*n->q i=C.add P (C.mul (i-n) G):=fun i hi hj=>by show (if _ then _ else _)=_; rw [if_neg hi,if_pos hj]
 have q2:∀ i,¬ i<2*n->q i=C.add (C.add P P) (C.mul (i-2*n) G):=fun i hi=>by show (if _ then _ else _)=_; rw [if_neg (by omega),if_neg hi]
 by_cases a1:i<n
 ·rw [q0 i a1] at e
  by_cases b1:j<n
  ·rw [q0 j b1] at e
   exact same _ C.on_O i j h1 b1 e
  ·rw [C.O_add] at e
   by_cases b2:j<2*n
   ·rw [q1 j b1 b2] at e; exact l1 _ _ e
   ·rw [q2 j b2] at e; exact l3 _ _ e
 ·by_cases a2:i<2*n
  ·rw [q1 i a1 a2] at e
   by_cases b2:j<2*n
   ·rw [q1 j (by omega) b2] at e
    exact same _ hP (i-n) (j-n) (by omega) (by omega) e
   ·rw [q2 j b2] at e; exact l2 _ _ e
  ·rw [q2 i a2,q2 j (by omega)] at e
   exact same _ oPP (i-2*n) (j-2*n) (by omega) (by omega) e
end Go.EC
namespace Go.EC
set_option linter.unusedVariables false

def toF (p:Nat) [NeZero p] (x:Int):Fin p:=Fin.ofNat p (x%(p:Int)).toNat
section
variable {p : Nat} [NeZero p]
theorem pos_p:(0:Int)<(p:Int):=by have:=Nat.pos_of_neZero p; omega
theorem toF_val (x:Int):((toF p x).val:Int)=x%(p:Int):=by
 have h0:=Int.emod_nonneg x (show (p:Int)≠0 by have:=pos_p (p:=p); omega)
 have h1:=Int.emod_lt_of_pos x (pos_p (p:=p))
 show (((x%(p:Int)).toNat%p:Nat):Int)=_
 rw [Nat.mod_eq_of_lt (by omega)]; omega
theorem toF_ext {x y:Int} (h:x%(p:Int)=y%(p:Int)):toF p x=toF p y:=by unfold toF; rw [h]
theorem eq_of_toF {x y:Int} (h:toF p x=toF p y):x%(p:Int)=y%(p:Int):=by rw [← toF_val,← toF_val,h]
theorem toF_of_val {x:Fin p} {n:Int} (h:(x.val:Int)=n%(p:Int)):x=toF p n:=by
 apply Fin.ext; have:=toF_val (p:=p) n; omega
theorem toF_mod (x:Int):toF p (x%(p:Int))=toF p x:=toF_ext (by rw [Int.emod_emod])
theorem toF_zero:toF p 0=0:=by
 symm; apply toF_of_val; simp
theorem toF_one:toF p 1=1:=by
 symm; apply toF_of_val
 show ((1%p:Nat):Int)=_
 push_cast; rfl
theorem toF_add (x y:Int):toF p (x+y)=toF p x+toF p y:=by
 symm; apply toF_of_val
 rw [Fin.val_add]; push_cast; rw [toF_val,toF_val,← Int.add_emod]
theorem toF_mul (x y:Int):toF p (x*y)=toF p x*toF p y:=by
 symm; apply toF_of_val
 rw [Fin.val_mul]; push_cast; rw [toF_val,toF_val,← Int.mul_emod]
theorem toF_neg (x:Int):toF p (-x) = -toF p x:=by
 have h:toF p (-x)+toF p x=0:=by rw [← toF_add,show -x+x=0 by omega,toF_zero]
 grind -lia
theorem toF_sub (x y:Int):toF p (x-y)=toF p x-toF p y:=by
 rw [show x-y=x + -y by omega,toF_add,toF_neg]; grind -lia
theorem toF_natCast (n:Nat):toF p (n:Int)=Fin.ofNat p n:=by
 symm; apply toF_of_val
 show ((n%p:Nat):Int)=_
 push_cast; rfl
theorem toF_self (x:Fin p):toF p (x.val:Int)=x:=by
 symm; apply toF_of_val; rw [Int.emod_eq_of_lt (by omega) (by have:=x.isLt; omega)]
theorem toF_inj {x y:Int} (hx:0<=x/\x<p) (hy:0<=y/\y<p) (h:toF p x=toF p y):x=y:=by
 have:=eq_of_toF h
 rwa [Int.emod_eq_of_lt hx.1 hx.2,Int.emod_eq_of_lt hy.1 hy.2] at this
theorem toF_eq_zero {x:Int} (hx:0<=x/\x<p):toF p x=0 ↔ x=0:=by
 constructor
 ·intro h; exact toF_inj hx ⟨by omega,pos_p⟩ (by rw [h,toF_zero])
 ·rintro rfl; exact toF_zero

def fpow (x:Fin p):Nat->Fin p
 | 0=>1
 | n+1=>fpow x n*x
theorem fpow_add (x:Fin p) (m:Nat):∀ n,fpow x (m+n)=fpow x m*fpow x n
 | 0=>by simp only [Nat.add_zero,fpow]; grind -lia
 | n+1=>by rw [← Nat.add_assoc]; simp only [fpow]; rw [fpow_add x m n]; grind -lia
theorem fpow_mul (x:Fin p) (m:Nat):∀ n,fpow x (m*n)=fpow (fpow x m) n
 | 0=>rfl
 | n+1=>by rw [Nat.mul_succ,fpow_add,fpow_mul x m n]; rfl
theorem fpow_val (x:Fin p):∀ n,(fpow x n).val=x.val^n%p
 | 0=>rfl
 | n+1=>by
  show (fpow x n*x).val=_
  rw [Fin.val_mul,fpow_val x n,Nat.pow_succ,Nat.mod_mul_mod]
theorem fpow_p (hp:Pr p) (x:Fin p):fpow x p=x:=by
 apply Fin.ext; rw [fpow_val,fermat hp,Nat.mod_eq_of_lt x.isLt]
theorem fpow_zero (n:Nat):fpow (0:Fin p) (n+1)=0:=by simp only [fpow]; grind -lia
theorem one_ne_zero (hp:Pr p):(1:Fin p)≠0:=by
 intro h
 have:=congrArg Fin.val h
 have e:((1:Fin p):Nat)=1%p:=rfl
 have e0:((0:Fin p):Nat)=0:=rfl
 rw [e,e0,Nat.mod_eq_of_lt hp.1] at this
 omega
theorem fpow_p1 (hp:Pr p) {x:Fin p} (hx:x≠0):fpow x (p-1)=1:=by
 have h1:=hp.1
 have e:fpow x (p-1)*x=x:=(congrArg (fpow x) (show p-1+1=p by omega)).trans (fpow_p hp x)
 have:=pinv_mul hp x hx
 have k:fpow x (p-1)*(pinv x*x)=pinv x*x:=by
  have:fpow x (p-1)*(pinv x*x)=pinv x*(fpow x (p-1)*x):=by grind -lia
  rw [this,e]
 rw [this] at k
 grind -lia
theorem pinv_pow (hp:Pr p) (x:Fin p):fpow x (p-2)=pinv x:=by
 apply Fin.ext; rw [fpow_val]; rfl

def Rp (X Y Z:Fin p):Pt p->Prop
 | .O=>Z=0
 | .A x y=>Z≠0/\X=x*Z/\Y=y*Z
def Rj (X Y Z:Fin p):Pt p->Prop
 | .O=>Z=0
 | .A x y=>Z≠0/\X=x*(Z*Z)/\Y=y*(Z*(Z*Z))
end

section
variable {p : Nat} [NeZero p] (C : Cv p)
include C
theorem Cv.mul_ne {a b:Fin p} (ha:a≠0) (hb:b≠0):a*b≠0:=fun h=>hb (C.nz h ha)
theorem Cv.two_ne {a:Fin p} (ha:a≠0):2*a≠0:=C.mul_ne C.two ha
theorem Cv.add_same {x y:Fin p} (h:y=0):C.add (.A x y) (.A x y) = .O:=if_pos ⟨rfl,by rw [h]; grind -lia⟩
theorem Cv.eq_neg_or {x y1 y2:Fin p} (h1:C.on (.A x y1)) (h2:C.on (.A x y2)):y1=y2\/y1+y2=0:=by
 simp only [Cv.on] at h1 h2
 have e:(y1-y2)*(y1+y2)=0:=by grind -lia
 by_cases z:y1-y2=0
 ·exact .inl (eq_of_sub z)
 ·exact .inr (C.nz e z)
theorem Cv.sl_self {x y al:Fin p} (hy:y≠0) (h:al*(2*y)=3*(x*x)+2*C.a2*x+C.a4):C.Sl x y x y al:=by
 refine ⟨by grind -lia,?_⟩
 have:al*(y+y)=al*(2*y):=by grind -lia
 rw [this,h]; grind -lia
theorem Cv.sl_other {x1 y1 x2 y2 al:Fin p} (h1:C.on (.A x1 y1)) (h2:C.on (.A x2 y2)) (hx:x1≠x2) (h:y1-y2=al*(x1-x2)):C.Sl x1 y1 x2 y2 al:=by
 have hd:¬ (x1=x2/\y1+y2=0):=fun z=>hx z.1
 have s:=C.slope_ok h1 h2 hd
 have n:x1-x2≠0:=fun z=>hx (eq_of_sub z)
 have e:(x1-x2)*al=(x1-x2)*C.slope x1 y1 x2 y2:=by
  have:=s.h1
  rw [h] at this
  grind -lia
 rw [C.cancel n e]; exact s

theorem Cv.twice_p (ha2:C.a2=0) {X Y Z w s b h:Fin p} {P:Pt p} (hP:C.on P) (hR:Rp X Y Z P) (hn:Z≠0) (hY:Y≠0)
  (hw:w=3*(X*X)+C.a4*(Z*Z)) (hs:s=Y*Z) (hb:b=X*Y*s) (hh:h=w*w-8*b) :
  Rp (2*(h*s)) (w*(4*b-h)-8*(Y*s*(Y*s))) (8*(s*(s*s))) (C.add P P):=by
 cases P with
 | O=>exact absurd hR hn
 | A x y =>
  obtain ⟨_,rfl,rfl⟩:=hR
  have hy:y≠0:=by rintro rfl; exact hY (by grind -lia)
  have h2y:=C.two_ne hy
  have hi:=C.inv_mul _ h2y
  have sl:=C.sl_self (x:=x) (al:=(3*(x*x)+2*C.a2*x+C.a4)*C.inv (2*y)) hy (by
   generalize C.inv (2*y)=i at *
   have:(3*(x*x)+2*C.a2*x+C.a4)*i*(2*y)=(3*(x*x)+2*C.a2*x+C.a4)*(i*(2*y)):=by grind -lia
   rw [this,hi]; grind -lia)
  have hal:w=2*y*((3*(x*x)+2*C.a2*x+C.a4)*C.inv (2*y))*(Z*Z):=by
   have:2*y*((3*(x*x)+2*C.a2*x+C.a4)*C.inv (2*y))*(Z*Z)=(3*(x*x)+2*C.a2*x+C.a4)*(C.inv (2*y)*(2*y))*(Z*Z):=by
    generalize C.inv (2*y)=i; grind -lia
   rw [this,hi,hw,ha2]; grind -lia
  have hd:¬ (x=x/\y+y=0):=fun z=>hy (C.nz2 z.2)
  rw [C.add_eq hP hP hd sl]
  generalize (3*(x*x)+2*C.a2*x+C.a4)*C.inv (2*y)=al at *
  have s0:s≠0:=by rw [hs]; exact C.mul_ne (C.mul_ne hy hn) hn
  have h8:(8:Fin p)≠0:=by
   have:(8:Fin p)=2*(2*2):=by grind -lia
   rw [this]; exact C.mul_ne C.two (C.mul_ne C.two C.two)
  refine ⟨C.mul_ne h8 (C.mul_ne s0 (C.mul_ne s0 s0)),?_,?_⟩
  ·simp only [Cv.thx,ha2]; rw [hh,hb,hal,hs]; grind -lia
  ·simp only [Cv.thy,Cv.thx,ha2]; rw [hh,hb,hal,hs]; grind -lia

theorem Cv.plus_p (ha2:C.a2=0) {X1 Y1 Z1 X2 Y2 Z2 u v:Fin p} {P Q:Pt p} (hP:C.on P) (hQ:C.on Q) (h1:Rp X1 Y1 Z1 P) (h2:Rp X2 Y2 Z2 Q) (n1:Z1≠0) (n2:Z2≠0)
  (hu:u=Y2*Z1-Y1*Z2) (hv:v=X2*Z1-X1*Z2) :
  (v=0->u≠0->C.add P Q = .O)/\(v=0->u=0->P=Q) /\
  (v≠0->∀ zz r x:Fin p,zz=Z1*Z2->r=v*v*(X1*Z2)->x=u*u*zz-v*(v*v)-2*r ->
   Rp (v*x) (u*(r-x)-v*(v*v)*(Y1*Z2)) (v*(v*v)*zz) (C.add P Q)):=by
 cases P with
 | O=>exact absurd h1 n1
 | A x1 y1=>cases Q with
  | O=>exact absurd h2 n2
  | A x2 y2 =>
   obtain ⟨_,rfl,rfl⟩:=h1
   obtain ⟨_,rfl,rfl⟩:=h2
   have nz:=C.mul_ne n1 n2
   have hv':v=(x2-x1)*(Z1*Z2):=by rw [hv]; grind -lia
   have hu':u=(y2-y1)*(Z1*Z2):=by rw [hu]; grind -lia
   have xx:v=0->x1=x2:=fun e=>by
    rw [hv'] at e
    have e:(Z1*Z2)*(x2-x1)=0:=by rw [← e]; grind -lia
    exact (eq_of_sub (C.nz e nz)).symm
   refine ⟨fun e1 e2=>?_,fun e1 e2=>?_,fun e zz r x hzz hr hx=>?_⟩
   ·have:=xx e1
    subst this
    rcases C.eq_neg_or hP hQ with e | e
    ·exact absurd (by rw [hu',e]; grind -lia) e2
    ·exact if_pos ⟨rfl,e⟩
   ·rw [hu'] at e2
    have e2:(Z1*Z2)*(y2-y1)=0:=by rw [← e2]; grind -lia
    rw [xx e1,eq_of_sub (C.nz e2 nz)]
   ·have hne:x1≠x2:=by rintro rfl; exact e (by rw [hv']; grind -lia)
    have hd:¬ (x1=x2/\y1+y2=0):=fun z=>hne z.1
    obtain ⟨al,sl,ea⟩:=C.sl_exists hP hQ hd
    rw [ea]
    have hal:u=al*v:=by
     have:=sl.h1
     rw [hu',hv']
     have:y2-y1=al*(x2-x1):=by
      have e:y2-y1 = -(y1-y2):=by grind -lia
      rw [e,this]; grind -lia
     rw [this]; grind -lia
    refine ⟨C.mul_ne (C.mul_ne e (C.mul_ne e e)) (by rw [hzz]; exact nz),?_,?_⟩
    ·simp only [Cv.thx,ha2]; rw [hx,hr,hal,hzz,hv']; grind -lia
    ·simp only [Cv.thy,Cv.thx,ha2]; rw [hx,hr,hal,hzz,hv']; grind -lia

theorem Cv.twice_j (ha2:C.a2=0) {X Y Z s m x:Fin p} {P:Pt p} (hP:C.on P) (hR:Rj X Y Z P) (hn:Z≠0) (hY:Y≠0)
  (hs:s=4*(X*(Y*Y))) (hm:m=3*(X*X)+C.a4*(Z*Z*(Z*Z))) (hx:x=m*m-(s+s)) :
  Rj x (m*(s-x)-8*(Y*Y*(Y*Y))) (2*(Y*Z)) (C.add P P):=by
 cases P with
 | O=>exact absurd hR hn
 | A x0 y =>
  obtain ⟨_,rfl,rfl⟩:=hR
  have hy:y≠0:=by rintro rfl; exact hY (by grind -lia)
  have h2y:=C.two_ne hy
  have hi:=C.inv_mul _ h2y
  have sl:=C.sl_self (x:=x0) (al:=(3*(x0*x0)+2*C.a2*x0+C.a4)*C.inv (2*y)) hy (by
   generalize C.inv (2*y)=i at *
   have:(3*(x0*x0)+2*C.a2*x0+C.a4)*i*(2*y)=(3*(x0*x0)+2*C.a2*x0+C.a4)*(i*(2*y)):=by grind -lia
   rw [this,hi]; grind -lia)
  have hal:m=2*y*((3*(x0*x0)+2*C.a2*x0+C.a4)*C.inv (2*y))*(Z*Z*(Z*Z)):=by
   have:2*y*((3*(x0*x0)+2*C.a2*x0+C.a4)*C.inv (2*y))*(Z*Z*(Z*Z))=(3*(x0*x0)+2*C.a2*x0+C.a4)*(C.inv (2*y)*(2*y))*(Z*Z*(Z*Z)):=by
    generalize C.inv (2*y)=i; grind -lia
   rw [this,hi,hm,ha2]; grind -lia
  have hd:¬ (x0=x0/\y+y=0):=fun z=>hy (C.nz2 z.2)
  rw [C.add_eq hP hP hd sl]
  generalize (3*(x0*x0)+2*C.a2*x0+C.a4)*C.inv (2*y)=al at *
  refine ⟨C.two_ne (C.mul_ne (C.mul_ne hy (C.mul_ne hn (C.mul_ne hn hn))) hn),?_,?_⟩
  ·simp only [Cv.thx,ha2]; rw [hx,hs,hal]; grind -lia
  ·simp only [Cv.thy,Cv.thx,ha2]; rw [hx,hs,hal]; grind -lia
theorem Cv.plus_j (ha2:C.a2=0) {X1 Y1 Z1 X2 Y2 Z2 u h s r:Fin p} {P Q:Pt p} (hP:C.on P) (hQ:C.on Q) (h1:Rj X1 Y1 Z1 P) (h2:Rj X2 Y2 Z2 Q) (n1:Z1≠0) (n2:Z2≠0)
  (hu:u=X1*(Z2*Z2)) (hh:h=X2*(Z1*Z1)-u) (hs:s=Y1*(Z2*Z2*Z2)) (hr:r=Y2*(Z1*Z1*Z1)-s) :
  (h=0->r≠0->C.add P Q = .O)/\(h=0->r=0->P=Q) /\
  (h≠0->∀ v x:Fin p,v=u*(h*h)->x=r*r-h*(h*h)-(v+v) ->
   Rj x (r*(v-x)-s*(h*(h*h))) (h*(Z1*Z2)) (C.add P Q)):=by
 cases P with
 | O=>exact absurd h1 n1
 | A x1 y1=>cases Q with
  | O=>exact absurd h2 n2
  | A x2 y2 =>
   obtain ⟨_,rfl,rfl⟩:=h1
   obtain ⟨_,rfl,rfl⟩:=h2
   have nz:=C.mul_ne n1 n2
   have hh':h=(x2-x1)*(Z1*Z2*(Z1*Z2)):=by rw [hh,hu]; grind -lia
   have hr':r=(y2-y1)*(Z1*Z2*(Z1*Z2*(Z1*Z2))):=by rw [hr,hs]; grind -lia
   have xx:h=0->x1=x2:=fun e=>by
    rw [hh'] at e
    have e:(Z1*Z2*(Z1*Z2))*(x2-x1)=0:=by rw [← e]; grind -lia
    exact (eq_of_sub (C.nz e (C.mul_ne nz nz))).symm
   refine ⟨fun e1 e2=>?_,fun e1 e2=>?_,fun e v x hv hx=>?_⟩
   ·have:=xx e1
    subst this
    rcases C.eq_neg_or hP hQ with e | e
    ·exact absurd (by rw [hr',e]; grind -lia) e2
    ·exact if_pos ⟨rfl,e⟩
   ·rw [hr'] at e2
    have e2:(Z1*Z2*(Z1*Z2*(Z1*Z2)))*(y2-y1)=0:=by rw [← e2]; grind -lia
    rw [xx e1,eq_of_sub (C.nz e2 (C.mul_ne nz (C.mul_ne nz nz)))]
   ·have hne:x1≠x2:=by rintro rfl; exact e (by rw [hh']; grind -lia)
    have hd:¬ (x1=x2/\y1+y2=0):=fun z=>hne z.1
    obtain ⟨al,sl,ea⟩:=C.sl_exists hP hQ hd
    rw [ea]
    have hal:r=al*(h*(Z1*Z2)):=by
     have:=sl.h1
     rw [hr',hh']
     have:y2-y1=al*(x2-x1):=by
      have e:y2-y1 = -(y1-y2):=by grind -lia
      rw [e,this]; grind -lia
     rw [this]; grind -lia
    refine ⟨C.mul_ne e nz,?_,?_⟩
    ·simp only [Cv.thx,ha2]; rw [hx,hv,hu,hal,hh']; grind -lia
    ·simp only [Cv.thy,Cv.thx,ha2]; rw [hx,hv,hs,hu,hal,hh']; grind -lia
end
end Go.EC
namespace Go.EC
set_option linter.unusedVariables false

abbrev p256:Nat:=115792089210356248762697446949407573530086143415290314195533631308867097853951
abbrev n256:Nat:=115792089210356248762697446949407573529996955224135760342422259061068512044369
def b256:Nat:=41058363725152142129326129780047268409114441015993725554835256314039467401291
instance nz256:NeZero p256:=⟨by decide⟩
theorem pr256:Pr p256:=pr_115792089210356248762697446949407573530086143415290314195533631308867097853951
theorem prn256:Pr n256:=pr_115792089210356248762697446949407573529996955224135760342422259061068512044369

abbrev Tri:=Nat×Nat×Nat
def tm (t u:Tri):Tri :=
 ((t.1*u.1+(p256-b256)*(t.2.1*u.2.2+t.2.2*u.2.1))%p256,
  (t.1*u.2.1+t.2.1*u.1+3*(t.2.1*u.2.2+t.2.2*u.2.1)+(p256-b256)*(t.2.2*u.2.2))%p256,
  (t.1*u.2.2+t.2.1*u.2.1+t.2.2*u.1+3*(t.2.2*u.2.2))%p256)
def tp:Nat->Tri->Nat->Tri->Tri
 | 0,_,_,o=>o
 | f+1,a,e,o=>if e=0 then o else tp f (tm a a) (e/2) (if e%2=1 then tm o a else o)
abbrev oN (n:Nat):Fin p256:=Fin.ofNat p256 n
theorem oN_add (a b:Nat):oN (a+b)=oN a+oN b:=by
 have:=toF_add (p:=p256) a b
 rw [← Int.natCast_add,toF_natCast,toF_natCast,toF_natCast] at this; exact this
theorem oN_mul (a b:Nat):oN (a*b)=oN a*oN b:=by
 have:=toF_mul (p:=p256) a b
 rw [← Int.natCast_mul,toF_natCast,toF_natCast,toF_natCast] at this; exact this
theorem oN_mod (a:Nat):oN (a%p256)=oN a:=by
 apply Fin.ext
 show a%p256%p256=a%p256
 rw [Nat.mod_mod]
theorem oN_negb:oN (p256-b256) = -oN b256:=by
 have:oN (p256-b256)+oN b256=0:=by
  rw [← oN_add,show p256-b256+b256=p256 by decide]
  apply Fin.ext; show p256%p256=0; exact Nat.mod_self _
 generalize oN (p256-b256)=x at *
 generalize oN b256=y at *
 grind -lia
def ev (t:Tri) (r:Fin p256):Fin p256:=oN t.1+oN t.2.1*r+oN t.2.2*(r*r)
theorem oN3:oN 3=3:=rfl
theorem ev_id {a0 a1 a2 b0 b1 b2 r B:Fin p256} (h:r*r*r=3*r-B) :
  a0*b0 + -B*(a1*b2+a2*b1)+(a0*b1+a1*b0+3*(a1*b2+a2*b1) + -B*(a2*b2))*r+(a0*b2+a1*b1+a2*b0+3*(a2*b2))*(r*r) =
  (a0+a1*r+a2*(r*r))*(b0+b1*r+b2*(r*r)):=by
 have e:(a0+a1*r+a2*(r*r))*(b0+b1*r+b2*(r*r))=a0*b0+(a0*b1+a1*b0)*r+(a0*b2+a1*b1+a2*b0)*(r*r)+(a1*b2+a2*b1)*(r*r*r)+a2*b2*((r*r*r)*r):=by grind -lia
 rw [e,h]; grind -lia
theorem ev_tm {r:Fin p256} (h:r*r*r=3*r-oN b256) (t u:Tri):ev (tm t u) r=ev t r*ev u r:=by
 simp only [ev,tm,oN_mod,oN_add,oN_mul,oN_negb,oN3]
 exact ev_id h
theorem ev_tp {r:Fin p256} (h:r*r*r=3*r-oN b256):∀ (f:Nat) (a:Tri) (e:Nat) (o:Tri),e<2^f->ev (tp f a e o) r=ev o r*fpow (ev a r) e
 | 0,a,e,o,he=>by
  have:e=0:=by simpa using he
  subst this; simp only [tp,fpow]; grind -lia
 | f+1,a,e,o,he=>by
  simp only [tp]
  split
  ·rename_i h0; subst h0; simp only [fpow]; grind -lia
  ·rw [ev_tp h f _ _ _ (by rw [Nat.pow_succ] at he; omega),ev_tm h]
   have e2:ev a r*ev a r=fpow (ev a r) 2:=by simp only [fpow]; grind -lia
   rw [e2,← fpow_mul]
   split
   ·rename_i h1
    rw [ev_tm h]
    have:fpow (ev a r) e=ev a r*fpow (ev a r) (2*(e/2)):=by
     have:=fpow_add (ev a r) 1 (2*(e/2))
     rw [show 1+2*(e/2)=e by omega] at this
     rw [this]
     have e1:fpow (ev a r) 1=ev a r:=by simp only [fpow]; grind -lia
     rw [e1]
    rw [this]; grind -lia
   ·rename_i h1
    rw [show 2*(e/2)=e by omega]
def wit:Tri:=(66434390973925144466073271287821796038003695194169110494110089305650096453661,12402202686218762177567235911775779164004716598278868847786114277539554646091,24678849118215552148312087830792888746041224110560601850711771001608500700145)
def winv:Tri:=(76626890310466861426869089647039036757962535851890885406097439786770458211455,74462945259064871768191128030512052509059297803194871526163573358218695456204,34768139465301476436978405170953382516735956999154666452188405812258086013549)
theorem tp_wit:tp 256 (0,1,0) p256 (1,0,0)=(wit.1,wit.2.1+1,wit.2.2):=by decide +kernel
theorem wit_inv:tm wit winv=(1,0,0):=by decide +kernel
theorem no_root (r:Fin p256):r*r*r≠3*r-oN b256:=by
 intro h
 have e1:=ev_tp h 256 (0,1,0) p256 (1,0,0) (by decide +kernel)
 have er:ev (0,1,0) r=r:=by
  show oN 0+oN 1*r+oN 0*(r*r)=r
  rw [show oN 0=0 from rfl,show oN 1=1 from rfl]; grind -lia
 have eo:ev (1,0,0) r=1:=by
  show oN 1+oN 0*r+oN 0*(r*r)=1
  rw [show oN 0=0 from rfl,show oN 1=1 from rfl]; grind -lia
 rw [tp_wit,er,eo,fpow_p pr256] at e1
 have e2:ev wit r=0:=by
  have:ev (wit.1,wit.2.1+1,wit.2.2) r=ev wit r+r:=by
   show oN wit.1+oN (wit.2.1+1)*r+oN wit.2.2*(r*r)=oN wit.1+oN wit.2.1*r+oN wit.2.2*(r*r)+r
   rw [oN_add,show oN 1=1 from rfl]; grind -lia
  rw [this] at e1
  grind -lia
 have e3:=ev_tm h wit winv
 rw [wit_inv,e2,eo] at e3
 exact one_ne_zero pr256 (by rw [e3]; grind -lia)

theorem two256:(2:Fin p256)≠0:=by decide +kernel
theorem on_root {x:Fin p256} (h:x*x*x+0*(x*x) + -3*x+oN b256=0):x*x*x=3*x-oN b256:=by
 generalize oN b256=B at *
 grind -lia
def C256:Cv p256 where
 inv:=pinv
 a2:=0
 a4 := -3
 a6:=oN b256
 inv_mul:=pinv_mul pr256
 two:=two256
 ns:=fun x h=>absurd (on_root h) (no_root x)
theorem no_two (P:Pt p256) (hP:C256.on P) (h:C256.add P P = .O):P = .O:=by
 cases P with
 | O=>rfl
 | A x y =>
  exfalso
  by_cases hd:x=x/\y+y=0
  ·have hy:y=0:=C256.nz2 hd.2
   have hP:y*y=x*x*x+0*(x*x) + -3*x+oN b256:=hP
   refine no_root x (on_root ?_)
   rw [← hP,hy]; grind -lia
  ·have:C256.add (.A x y) (.A x y) ≠ .O:=by
    obtain ⟨al,_,e⟩:=C256.sl_exists hP hP hd
    rw [e]; intro z; cases z
   exact this h

abbrev P2:Int:=115792089210356248762697446949407573530086143415290314195533631308867097853951
def tI (a b:Int):Int:=a*b%P2
def aI (a b:Int):Int:=(a+b)%P2
def sI (a b:Int):Int:=(a-b)%P2
abbrev Sol:=Int×Int×Int
def twI (a:Sol):Sol :=
 if a.2.2=0\/a.2.1=0 then (0,1,0) else
 let w:=sI (tI 3 (tI a.1 a.1)) (tI 3 (tI a.2.2 a.2.2))
 let s:=tI a.2.1 a.2.2
 let b:=tI (tI a.1 a.2.1) s
 let h:=sI (tI w w) (tI 8 b)
 let ys:=tI a.2.1 s
 (tI 2 (tI h s),sI (tI w (sI (tI 4 b) h)) (tI 8 (tI ys ys)),tI 8 (tI s (tI s s)))
def plI (a b:Sol):Sol :=
 if a.2.2=0 then b else if b.2.2=0 then a else
 let u:=sI (tI b.2.1 a.2.2) (tI a.2.1 b.2.2)
 let v:=sI (tI b.1 a.2.2) (tI a.1 b.2.2)
 if v=0 then (if u=0 then twI a else (0,1,0)) else
 let zz:=tI a.2.2 b.2.2
 let vv:=tI v v
 let vvv:=tI v vv
 let r:=tI vv (tI a.1 b.2.2)
 let x:=sI (sI (tI (tI u u) zz) vvv) (tI 2 r)
 (tI v x,sI (tI u (sI r x)) (tI vvv (tI a.2.1 b.2.2)),tI vvv zz)
abbrev f2 (x:Int):Fin p256:=toF p256 x
theorem f2_tI (a b:Int):f2 (tI a b)=f2 a*f2 b:=by rw [← toF_mul]; exact toF_mod _
theorem f2_aI (a b:Int):f2 (aI a b)=f2 a+f2 b:=by rw [← toF_add]; exact toF_mod _
theorem f2_sI (a b:Int):f2 (sI a b)=f2 a-f2 b:=by rw [← toF_sub]; exact toF_mod _
abbrev inP (x:Int):Prop:=0<=x/\x<P2
theorem in_mod (x:Int):inP (x%P2):=⟨Int.emod_nonneg _ (by decide),Int.emod_lt_of_pos _ (by decide)⟩
theorem f2_zero {x:Int} (h:inP x):f2 x=0 ↔ x=0:=toF_eq_zero h
structure RI (a:Sol) (P:Pt p256):Prop where
 on:C256.on P
 rp:Rp (f2 a.1) (f2 a.2.1) (f2 a.2.2) P
 i1:inP a.1
 i2:inP a.2.1
 i3:inP a.2.2
theorem f2_num:f2 2=2/\f2 3=3/\f2 4=4/\f2 8=8:=⟨rfl,rfl,rfl,rfl⟩
theorem f2_01:f2 0=0/\f2 1=1:=⟨rfl,rfl⟩
theorem RI.O:RI (0,1,0) .O:=⟨trivial,rfl,by decide,by decide,by decide⟩
theorem RI.O_of {a:Sol} {P:Pt p256} (h:RI a P) (hz:a.2.2=0):P = .O:=by
 have:=h.rp
 cases P with
 | O=>rfl
 | A x y=>exact absurd (by rw [hz]; rfl) this.1
theorem RI.z_of {a:Sol} (h:RI a .O):a.2.2=0:=(f2_zero h.i3).1 h.rp
theorem RI.twice {a:Sol} {P:Pt p256} (h:RI a P):RI (twI a) (C256.add P P):=by
 unfold twI
 split
 ·rename_i hz
  have:C256.add P P = .O:=by
   cases P with
   | O=>rfl
   | A x y =>
    rcases hz with hz | hz
    ·exact absurd (h.O_of hz) (by simp)
    ·have hr:=h.rp
     refine C256.add_same (C256.nz (a:=f2 a.2.2) ?_ hr.1)
     have:f2 a.2.1=0:=by rw [hz]; rfl
     rw [hr.2.2] at this
     rw [← this]; grind -lia
  rw [this]; exact RI.O
 ·rename_i hz
  have hn:f2 a.2.2≠0:=fun e=>hz (.inl ((f2_zero h.i3).1 e))
  have hy:f2 a.2.1≠0:=fun e=>hz (.inr ((f2_zero h.i2).1 e))
  refine ⟨C256.on_add h.on h.on,?_,in_mod _,in_mod _,in_mod _⟩
  have k:=C256.twice_p rfl h.on h.rp hn hy (w:=f2 (sI (tI 3 (tI a.1 a.1)) (tI 3 (tI a.2.2 a.2.2)))) (s:=f2 (tI a.2.1 a.2.2)) (b:=f2 (tI (tI a.1 a.2.1) (tI a.2.1 a.2.2)))
   (h:=f2 (sI (tI (sI (tI 3 (tI a.1 a.1)) (tI 3 (tI a.2.2 a.2.2))) (sI (tI 3 (tI a.1 a.1)) (tI 3 (tI a.2.2 a.2.2)))) (tI 8 (tI (tI a.1 a.2.1) (tI a.2.1 a.2.2)))))
   (by simp only [f2_sI,f2_tI,f2_num.2.1]; show _=3*_+(-3)*_; grind -lia) (by simp only [f2_tI]) (by simp only [f2_tI]) (by simp only [f2_sI,f2_tI,f2_num.2.2.2])
  simp only [f2_sI,f2_tI,f2_num.1,f2_num.2.1,f2_num.2.2.1,f2_num.2.2.2] at k ⊢
  exact k
theorem RI.plus {a b:Sol} {P Q:Pt p256} (h:RI a P) (k:RI b Q):RI (plI a b) (C256.add P Q):=by
 unfold plI
 split
 ·rename_i hz
  rw [h.O_of hz,C256.O_add]; exact k
 ·split
  ·rename_i hz
   rw [k.O_of hz,C256.add_O]; exact h
  ·rename_i hz1 hz2
   have n1:f2 a.2.2≠0:=fun e=>hz1 ((f2_zero h.i3).1 e)
   have n2:f2 b.2.2≠0:=fun e=>hz2 ((f2_zero k.i3).1 e)
   have iu:inP (sI (tI b.2.1 a.2.2) (tI a.2.1 b.2.2)):=in_mod _
   have iv:inP (sI (tI b.1 a.2.2) (tI a.1 b.2.2)):=in_mod _
   obtain ⟨g1,g2,g3⟩:=C256.plus_p rfl h.on k.on h.rp k.rp n1 n2 (u:=f2 (sI (tI b.2.1 a.2.2) (tI a.2.1 b.2.2))) (v:=f2 (sI (tI b.1 a.2.2) (tI a.1 b.2.2))) (by simp only [f2_sI,f2_tI]) (by simp only [f2_sI,f2_tI])
   simp only
   split
   ·rename_i hv
    have hv:=(f2_zero iv).2 hv
    split
    ·rename_i hu
     have hu:=(f2_zero iu).2 hu
     rw [← g2 hv hu]; exact h.twice
    ·rename_i hu
     rw [g1 hv (fun e=>hu ((f2_zero iu).1 e))]; exact RI.O
   ·rename_i hv
    have hv:f2 (sI (tI b.1 a.2.2) (tI a.1 b.2.2))≠0:=fun e=>hv ((f2_zero iv).1 e)
    have:=g3 hv _ _ _ rfl rfl rfl
    refine ⟨C256.on_add h.on k.on,?_,in_mod _,in_mod _,in_mod _⟩
    simp only [f2_sI,f2_tI,f2_num.1] at this ⊢
    exact this
def mI:Nat->Nat->Sol->Sol
 | 0,_,_=>(0,1,0)
 | f+1,k,a=>if k%2=1 then plI (twI (mI f (k/2) a)) a else twI (mI f (k/2) a)
theorem RI.mul {a:Sol} {P:Pt p256} (h:RI a P):∀ (f k:Nat),k<2^f->RI (mI f k a) (C256.mul k P)
 | 0,k,hk=>by
  have:k=0:=by simpa using hk
  subst this; exact RI.O
 | f+1,k,hk=>by
  have ih:=h.mul f (k/2) (by rw [Nat.pow_succ] at hk; omega)
  have e:C256.add (C256.mul (k/2) P) (C256.mul (k/2) P)=C256.mul (k/2+k/2) P:=(C256.mul_add h.on _ _).symm
  simp only [mI]
  split
  ·have:=ih.twice.plus h
   rw [e] at this
   have e2:C256.mul k P=C256.add (C256.mul (k/2+k/2) P) P:=by
    show _=C256.mul (k/2+k/2+1) P
    rw [show k/2+k/2+1=k by omega]
   rw [e2]; exact this
  ·have:=ih.twice
   rw [e,show k/2+k/2=k by omega] at this
   exact this
def gx:Int:=48439561293906451759052585252797914202762949526041747995844080717082404635286
def gy:Int:=36134250956749795798585127919587881956611106672985015071877198253568414405109
def G256:Pt p256 := .A (f2 gx) (f2 gy)
theorem G_on:C256.on G256:=by
 show f2 gy*f2 gy=f2 gx*f2 gx*f2 gx+0*(f2 gx*f2 gx) + -3*f2 gx+oN b256
 decide +kernel
theorem G_RI:RI (gx,gy,1) G256:=⟨G_on,⟨by decide +kernel,by show f2 gx=f2 gx*f2 1; rw [f2_01.2]; grind -lia,by show f2 gy=f2 gy*f2 1; rw [f2_01.2]; grind -lia⟩,by decide,by decide,by decide⟩
theorem nG_z:(mI 256 n256 (gx,gy,1)).2.2=0:=by decide +kernel
theorem nG:C256.mul n256 G256 = .O:=(G_RI.mul 256 n256 (by decide +kernel)).O_of nG_z
theorem all256 (P:Pt p256) (hP:C256.on P):∃ i,P=C256.mul i G256 :=
 C256.cyclic G_on prn256 nG (by intro h; cases h) (by decide +kernel) (by decide +kernel) no_two P hP
theorem order256 (P:Pt p256) (hP:C256.on P):C256.mul n256 P = .O:=by
 obtain ⟨i,rfl⟩:=all256 P hP
 rw [C256.mul_comm G_on,nG,C256.mul_O]
end Go.EC
