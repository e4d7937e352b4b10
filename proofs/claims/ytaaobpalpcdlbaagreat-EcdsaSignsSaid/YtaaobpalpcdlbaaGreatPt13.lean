import Derived.Test.YtaaobpalpcdlbaaGreatSxR
import Derived.Test.YtaaobpalpcdlbaaGreatProg
import Derived.Test.YtaaobpalpcdlbaaGreatPt12
import Derived.KernelRfl
namespace Go.Proofs.YtaaobpalpcdlbaaGreat.Bits
open Go Go.Sx Go.RowKit Go.EC
set_option linter.unusedVariables false
set_option maxRecDepth 100000
theorem pow_invP {a P:Int} {p:Nat} (hp:Go.EC.Pr p) (hP:P=(p:Int)) (h0:0<=a) (h:a%P≠0):P∣a*(a^(p-2)%P)-1:=by
 have p1:=hp.1
 obtain ⟨n,rfl⟩:=Int.eq_ofNat_of_zero_le h0
 have nd:¬ p∣n:=by
  intro d
  exact h (Int.emod_eq_zero_of_dvd (by rw [hP]; exact Int.natCast_dvd_natCast.2 d))
 have f:=Go.EC.fermat1 hp nd
 have e:(n:Int)^(p-1)%P=1:=by
  rw [hP]
  have:((n^(p-1)%p:Nat):Int)=1:=by rw [f]; rfl
  rw [← this]; simp
 have e2:(n:Int)*(n:Int)^(p-2)=(n:Int)^(p-1):=by
  rw [Int.mul_comm,← Int.pow_succ]; congr 1; omega
 have d1:=Int.emod_def ((n:Int)^(p-2)) P
 have d2:=Int.emod_def ((n:Int)^(p-1)) P
 rw [e] at d2
 rw [d1]
 generalize (n:Int)^(p-2)/P=k at *
 generalize (n:Int)^(p-1)/P=l at *
 generalize (n:Int)^(p-1)=w at *
 refine ⟨l-n*k,?_⟩
 have:(n:Int)*((n:Int)^(p-2)-P*k)=(n:Int)*(n:Int)^(p-2)-P*(n*k):=by grind
 rw [this,e2,Int.mul_sub]; omega
def pP (X Y:Int) (i:Bool):Pt p256:=if i then .O else .A (f2 X) (f2 Y)
def cX:Pt p256->Int
 | .O=>0
 | .A x _=>x.val
def cY:Pt p256->Int
 | .O=>0
 | .A _ y=>y.val
def cB:Pt p256->Bool
 | .O=>true
 | .A _ _=>false
theorem f2_b:f2 41058363725152142129326129780047268409114441015993725554835256314039467401291=oN b256:=rfl
theorem f2_val {n:Int} (h:inP n):((f2 n).val:Int)=n:=by
 rw [toF_val]; exact Int.emod_eq_of_lt h.1 h.2
theorem val_in (x:Fin p256):inP (x.val:Int):=by
 have h0:=x.isLt
 have h:(x.val:Int)<((p256:Nat):Int):=by omega
 exact ⟨by omega,h⟩
theorem f1_ne:f2 1≠0:=by decide +kernel
theorem in_1:inP 1:=by decide
theorem f2_self (x:Fin p256):f2 (x.val:Int)=x:=toF_self x
theorem cu_f2 (X:Int):f2 (cuF X)=f2 X*f2 X*f2 X+0*(f2 X*f2 X) + -3*f2 X+oN b256:=by
 unfold cuF
 rw [f2_aI,f2_tI,f2_sI,f2_tI,f2_b,f2_num.2.1]
 generalize f2 X=x
 generalize oN b256=b
 grind -lia
theorem on_fin {X Y:Int} (h:onP X Y false=true):(X<P2/\Y<P2)/\tI Y Y=cuF X:=by
 unfold onP at h; simpa using h
theorem on_inf {X Y:Int} (h:onP X Y true=true):X=0/\Y=0:=by
 unfold onP at h; simpa using h
theorem on_pP {X Y:Int} {i:Bool} (h:onP X Y i=true):C256.on (pP X Y i):=by
 cases i with
 | true=>trivial
 | false =>
  have:=congrArg f2 (on_fin h).2
  rw [f2_tI,cu_f2] at this
  exact this
theorem so_RI {X Y:Int} {i:Bool} (h:onP X Y i=true) (hx:0<=X) (hy:0<=Y):RI (soF i X Y) (pP X Y i):=by
 cases i with
 | true=>exact RI.O
 | false =>
  obtain ⟨⟨x1,y1⟩,_⟩:=on_fin h
  refine ⟨on_pP h,⟨f1_ne,?_,?_⟩,⟨hx,x1⟩,⟨hy,y1⟩,in_1⟩
  ·show f2 X=f2 X*f2 1
   rw [f2_01.2]; grind -lia
  ·show f2 Y=f2 Y*f2 1
   rw [f2_01.2]; grind -lia
theorem c_pP {X Y:Int} {i:Bool} (h:onP X Y i=true) (hx:0<=X) (hy:0<=Y):X=cX (pP X Y i)/\Y=cY (pP X Y i)/\i=cB (pP X Y i):=by
 cases i with
 | true=>exact ⟨(on_inf h).1,(on_inf h).2,rfl⟩
 | false =>
  obtain ⟨⟨x1,y1⟩,_⟩:=on_fin h
  exact ⟨(f2_val ⟨hx,x1⟩).symm,(f2_val ⟨hy,y1⟩).symm,rfl⟩
theorem pP_c (Q:Pt p256):pP (cX Q) (cY Q) (cB Q)=Q:=by
 cases Q with
 | O=>rfl
 | A x y=>show Pt.A (f2 (x.val:Int)) (f2 (y.val:Int))=_; rw [f2_self,f2_self]
theorem on_c {Q:Pt p256} (h:C256.on Q):onP (cX Q) (cY Q) (cB Q)=true:=by
 cases Q with
 | O=>rfl
 | A x y =>
  have hx:=val_in x
  have hy:=val_in y
  have h:y*y=x*x*x+0*(x*x) + -3*x+oN b256:=h
  have e:tI (y.val:Int) (y.val:Int)=cuF (x.val:Int):=by
   refine toF_inj (p:=p256) (in_mod _) (in_mod _) ?_
   show f2 (tI (y.val:Int) (y.val:Int))=f2 (cuF (x.val:Int))
   rw [f2_tI,cu_f2,f2_self,f2_self]; exact h
  show onP (x.val:Int) (y.val:Int) false=true
  rw [onP_fin,decide_eq_true hx.2,decide_eq_true hy.2,decide_eq_true e]; rfl
theorem c_in (Q:Pt p256):0<=cX Q/\0<=cY Q:=by
 cases Q with
 | O=>exact ⟨Int.le_refl _,Int.le_refl _⟩
 | A x y=>exact ⟨(val_in x).1,(val_in y).1⟩
theorem inv_f2 {z:Int} (h:inP z) (h0:z≠0):f2 z*f2 (invF z 115792089210356248762697446949407573530086143415290314195533631308867097853951)=1:=by
 have d:=pow_invP (P:=P2) (p:=p256) pr256 rfl h.1 (by rw [Int.emod_eq_of_lt h.1 h.2]; exact h0)
 have e:invF z 115792089210356248762697446949407573530086143415290314195533631308867097853951=z^(p256-2)%P2:=invF_eq (in_mod _).1 (in_mod _).2 d
 rw [e,← toF_mul]
 have:f2 (z*(z^(p256-2)%P2))=f2 1:=by
  refine toF_ext ?_
  obtain ⟨k,hk⟩:=d
  show z*(z^(p256-2)%P2)%P2=1%P2
  rw [show z*(z^(p256-2)%P2)=1+P2*k by omega,Int.add_mul_emod_self_left]
 exact this
theorem pn_RI {s:Sol} {Q:Pt p256} (h:RI s Q):pnX s=cX Q/\pnY s=cY Q/\pnB s=cB Q:=by
 cases Q with
 | O =>
  have z:=h.z_of
  exact ⟨if_pos z,if_pos z,decide_eq_true z⟩
 | A x y =>
  obtain ⟨hz,hx,hy⟩:=h.rp
  have z:s.2.2≠0:=fun z=>hz ((f2_zero h.i3).2 z)
  have iv:=inv_f2 h.i3 z
  refine ⟨?_,?_,decide_eq_false z⟩
  ·have e:pnX s=tI s.1 (invF s.2.2 115792089210356248762697446949407573530086143415290314195533631308867097853951):=if_neg z
   rw [e]
   refine toF_inj (p:=p256) (in_mod _) (val_in x) ?_
   show f2 (tI s.1 (invF s.2.2 115792089210356248762697446949407573530086143415290314195533631308867097853951))=f2 (x.val:Int)
   rw [f2_tI,f2_self,hx]
   generalize f2 s.2.2=a at *
   generalize f2 (invF s.2.2 115792089210356248762697446949407573530086143415290314195533631308867097853951)=b at *
   have:x*a*b=x*(a*b):=by grind -lia
   rw [this,iv]; grind -lia
  ·have e:pnY s=tI s.2.1 (invF s.2.2 115792089210356248762697446949407573530086143415290314195533631308867097853951):=if_neg z
   rw [e]
   refine toF_inj (p:=p256) (in_mod _) (val_in y) ?_
   show f2 (tI s.2.1 (invF s.2.2 115792089210356248762697446949407573530086143415290314195533631308867097853951))=f2 (y.val:Int)
   rw [f2_tI,f2_self,hy]
   generalize f2 s.2.2=a at *
   generalize f2 (invF s.2.2 115792089210356248762697446949407573530086143415290314195533631308867097853951)=b at *
   have:y*a*b=y*(a*b):=by grind -lia
   rw [this,iv]; grind -lia
theorem so_c {Q:Pt p256} (h:C256.on Q):RI (soF (cB Q) (cX Q) (cY Q)) Q:=by
 have:=so_RI (on_c h) (c_in Q).1 (c_in Q).2
 rwa [pP_c] at this
theorem neg_c {Q:Pt p256} (h:C256.on Q):sI 0 (cY Q)=cY Q.neg:=by
 cases Q with
 | O=>decide
 | A x y =>
  refine toF_inj (p:=p256) (in_mod _) (val_in (-y)) ?_
  show f2 (sI 0 (y.val:Int))=f2 ((-y).val:Int)
  rw [f2_sI,f2_self,f2_self,f2_01.1]; grind -lia
theorem neg_c2 (Q:Pt p256):cX Q.neg=cX Q/\cB Q.neg=cB Q:=by cases Q<;>exact ⟨rfl,rfl⟩
end Go.Proofs.YtaaobpalpcdlbaaGreat.Bits
