import Derived.Test.YtaaobpalpcdlbaaGreatSxR
import Derived.Test.YtaaobpalpcdlbaaGreatProg
import Derived.Test.YtaaobpalpcdlbaaGreatNum12
import Derived.KernelRfl
namespace Go.Proofs.YtaaobpalpcdlbaaGreat.Bits
open Go Go.Sx Go.RowKit
set_option linter.unusedVariables false
set_option maxRecDepth 100000
def hNumSpec (S:St) (b:Nat) (x:Int):St:=setWSpec S b 0 (limb x) 4
def invR (a m r s x y:Int):Prop :=
 0<m/\(0<=s/\s<r/\r<=m)/\(0<=x/\x<m)/\(0<=y/\y<m)/\m∣a*x-r/\m∣a*y-s/\Int.gcd r s=Int.gcd a m
open Classical in
noncomputable def invF (a m:Int):Int:=if h:∃ x,0<=x/\x<m/\m∣a*x-1 then Classical.choose h else 0
def okF (a m:Int):Bool:=decide (m≠0/\Int.gcd a m=1)
def invASpec:St->Inv:=fun S =>
 {ι:=Int×Int×Int×Int
  T:=fun p=>keepS (hNumSpec (hNumSpec (hNumSpec (hNumSpec S 4 p.1) 5 p.2.1) 6 p.2.2.1) 7 p.2.2.2) [2,3,4,5,6,7,8,9,10]
  R:=fun p=>invR (val4 (hat S 0 0) (hat S 0 1) (hat S 0 2) (hat S 0 3)) (val4 (hat S 1 0) (hat S 1 1) (hat S 1 2) (hat S 1 3)) p.1 p.2.1 p.2.2.1 p.2.2.2
  μ:=fun p=>p.2.1.toNat }
def md3AnnSpec:Anns:=[(50,0,invASpec)]
def md3CutSpec:Anns:=[]
def md3Spec:List (FuncId×CSpec):=[(85,divSpec),(84,lowSpec),(86,mMulSpec),(64,mSubSpec)]
theorem md3_ok:SpecsOk Tryz.prog md3Spec:=⟨div_ok,low_ok,mMul_ok,mSub_ok,trivial⟩
theorem invF_eq {a m x:Int} (h0:0<=x) (h1:x<m) (h2:m∣a*x-1):invF a m=x:=by
 have h:∃ x,0<=x/\x<m/\m∣a*x-1:=⟨x,h0,h1,h2⟩
 unfold invF
 rw [dif_pos h]
 obtain ⟨k0,k1,k2⟩:=Classical.choose_spec h
 generalize Classical.choose h=y at *
 obtain ⟨u,hu⟩:=h2
 obtain ⟨v,hv⟩:=k2
 have e:x-y=m*(u*y-v*x):=by
  have e1:(a*x-1)*y=(m*u)*y:=by rw [hu]
  have e2:(a*y-1)*x=(m*v)*x:=by rw [hv]
  grind
 generalize u*y-v*x=w at *
 rcases Int.lt_trichotomy w 0 with hw | hw | hw
 ·have:=Int.mul_le_mul_of_nonneg_left (show w <= -1 by omega) (show 0<=m by omega)
  omega
 ·rw [hw] at e; omega
 ·have:=Int.mul_le_mul_of_nonneg_left (show 1<=w by omega) (show 0<=m by omega)
  omega
theorem invF_none {a m:Int} (h:m=0\/Int.gcd a m≠1):invF a m=0:=by
 unfold invF
 rw [dif_neg]
 rintro ⟨x,h0,h1,u,hu⟩
 have d:(Int.gcd a m:Int)∣1:=by
  have e:1=a*x-m*u:=by omega
  rw [e]
  exact Int.dvd_sub (Int.dvd_trans (Int.gcd_dvd_left ..) (Int.dvd_mul_right ..)) (Int.dvd_trans (Int.gcd_dvd_right ..) (Int.dvd_mul_right ..))
 have d':Int.gcd a m=1:=Nat.eq_one_of_dvd_one (Int.natCast_dvd_natCast.1 d)
 omega
theorem gcd_step (r s:Int):Int.gcd s (r%s)=Int.gcd r s:=by
 rw [Int.emod_def,Int.gcd_sub_mul_left_right,Int.gcd_comm]
theorem inv_start {a m:Int} (hm:0<m):invR a m m (a%m) 0 (1%m):=by
 refine ⟨hm,⟨Int.emod_nonneg _ (by omega),Int.emod_lt_of_pos _ hm,by omega⟩,by omega,⟨Int.emod_nonneg _ (by omega),Int.emod_lt_of_pos _ hm⟩,⟨-1,by omega⟩,⟨a/m-a*(1/m),?_⟩,?_⟩
 ·have e1:=Int.emod_def 1 m
  have e2:=Int.emod_def a m
  rw [e1,e2]; grind
 ·rw [gcd_step]
theorem inv_step {a m r s x y:Int} (h:invR a m r s x y) (hs:s≠0):invR a m s (r%s) y ((x-r/s*y%m)%m):=by
 obtain ⟨hm,⟨s0,sr,rm⟩,⟨x0,x1⟩,⟨y0,y1⟩,⟨u,hu⟩,⟨v,hv⟩,g⟩:=h
 refine ⟨hm,⟨Int.emod_nonneg _ hs,Int.emod_lt_of_pos _ (by omega),by omega⟩,⟨y0,y1⟩,⟨Int.emod_nonneg _ (by omega),Int.emod_lt_of_pos _ hm⟩,⟨v,hv⟩,?_,by rw [gcd_step,g]⟩
 have e1:=Int.emod_def r s
 have e2:=Int.emod_def (r/s*y) m
 have e3:=Int.emod_def (x-r/s*y%m) m
 rw [e3,e2,e1]
 generalize (x-(r/s*y-m*(r/s*y/m)))/m=k
 generalize r/s*y/m=l
 generalize r/s=q
 refine ⟨u-q*v+a*l-a*k,?_⟩
 grind
theorem eq4 {a0 a1 a2 a3 b0 b1 b2 b3:Int} (ha0:U64 a0) (ha1:U64 a1) (ha2:U64 a2) (ha3:U64 a3) (hb0:U64 b0) (hb1:U64 b1) (hb2:U64 b2) (hb3:U64 b3) :
  (a0==b0&&(a1==b1&&(a2==b2&&(a3==b3&&true))))=decide (val4 a0 a1 a2 a3=val4 b0 b1 b2 b3):=by
 unfold U64 at *
 rw [Bool.eq_iff_iff]
 simp only [Bool.and_eq_true,beq_iff_eq,decide_eq_true_eq,and_true]
 constructor
 ·rintro ⟨rfl,rfl,rfl,rfl⟩; rfl
 ·intro h; unfold val4 at h; omega
theorem eq4l {x:Int} (h0:0<=x) (h1:x<115792089237316195423570985008687907853269984665640564039457584007913129639936) {b0 b1 b2 b3:Int} (hb0:U64 b0) (hb1:U64 b1) (hb2:U64 b2) (hb3:U64 b3) :
  (limb x 0==b0&&(limb x 1==b1&&(limb x 2==b2&&(limb x 3==b3&&true))))=decide (x=val4 b0 b1 b2 b3):=by
 rw [eq4 (limb_in ..) (limb_in ..) (limb_in ..) (limb_in ..) hb0 hb1 hb2 hb3,val4_limb' h0 h1]
theorem limb0 (j:Nat):limb 0 j=0:=by unfold limb; simp
def mInvSpec:CSpec
 | [.agg [.int .u64 a0,.int .u64 a1,.int .u64 a2,.int .u64 a3],.agg [.int .u64 m0,.int .u64 m1,.int .u64 m2,.int .u64 m3]],k=>((U64 a0.val)/\(U64 a1.val)/\(U64 a2.val)/\(U64 a3.val)/\(U64 m0.val)/\(U64 m1.val)/\(U64 m2.val)/\(U64 m3.val))/\(∀ r0:Int,r0=(invF (val4 a0.val a1.val a2.val a3.val) (val4 m0.val m1.val m2.val m3.val))->∀ r1:Bool,r1=(okF (val4 a0.val a1.val a2.val a3.val) (val4 m0.val m1.val m2.val m3.val))->k (.tup [.agg [.int .u64 (.sym (limb r0 0)),.int .u64 (.sym (limb r0 1)),.int .u64 (.sym (limb r0 2)),.int .u64 (.sym (limb r0 3))],.bool (.sym r1)]))
 | _,_=>False
def VCMInv (a0:Int) (a1:Int) (a2:Int) (a3:Int) (m0:Int) (m1:Int) (m2:Int) (m3:Int):Prop :=
 ∀ v1,v1=(m0==(0:Int)&&(m1==(0:Int)&&(m2==(0:Int)&&(m3==(0:Int)&&true))))->(v1=true->((IntKind.u64=IntKind.u64/\0=limb (invF (val4 a0 a1 a2 a3) (val4 m0 m1 m2 m3)) 0)/\(IntKind.u64=IntKind.u64/\0=limb (invF (val4 a0 a1 a2 a3) (val4 m0 m1 m2 m3)) 1)/\(IntKind.u64=IntKind.u64/\0=limb (invF (val4 a0 a1 a2 a3) (val4 m0 m1 m2 m3)) 2)/\(IntKind.u64=IntKind.u64/\0=limb (invF (val4 a0 a1 a2 a3) (val4 m0 m1 m2 m3)) 3)/\True)/\false=okF (val4 a0 a1 a2 a3) (val4 m0 m1 m2 m3)/\True)/\(v1=false->(U64 a0/\U64 a1/\U64 a2/\U64 a3/\U64 m0/\U64 m1/\U64 m2/\U64 m3)/\∀ v2,v2=modF (val4 a0 a1 a2 a3) (val4 m0 m1 m2 m3)->(U64 1/\U64 0/\U64 0/\U64 0/\U64 m0/\U64 m1/\U64 m2/\U64 m3)/\∀ v3,v3=modF (1:Int) (val4 m0 m1 m2 m3)->(∃ (x4:Int×Int×Int×Int),invR (val4 a0 a1 a2 a3) (val4 m0 m1 m2 m3) x4.fst x4.snd.fst x4.snd.snd.fst x4.snd.snd.snd/\(True/\True/\True/\false=false/\True/\True/\True/\True/\True/\True)/\(a0=a0/\a1=a1/\a2=a2/\a3=a3/\True)/\(m0=m0/\m1=m1/\m2=m2/\m3=m3/\True)/\((0:Int)=(0:Int)/\(0:Int)=(0:Int)/\(0:Int)=(0:Int)/\(0:Int)=(0:Int)/\True)/\((0:Int)=(0:Int)/\(0:Int)=(0:Int)/\(0:Int)=(0:Int)/\(0:Int)=(0:Int)/\True)/\(m0=limb x4.fst 0/\m1=limb x4.fst 1/\m2=limb x4.fst 2/\m3=limb x4.fst 3/\True)/\(limb v2 0=limb x4.snd.fst 0/\limb v2 1=limb x4.snd.fst 1/\limb v2 2=limb x4.snd.fst 2/\limb v2 3=limb x4.snd.fst 3/\True)/\((0:Int)=limb x4.snd.snd.fst 0/\(0:Int)=limb x4.snd.snd.fst 1/\(0:Int)=limb x4.snd.snd.fst 2/\(0:Int)=limb x4.snd.snd.fst 3/\True)/\(limb v3 0=limb x4.snd.snd.snd 0/\limb v3 1=limb x4.snd.snd.snd 1/\limb v3 2=limb x4.snd.snd.snd 2/\limb v3 3=limb x4.snd.snd.snd 3/\True)/\True)/\∀ (v5:Int×Int×Int×Int),invR (val4 a0 a1 a2 a3) (val4 m0 m1 m2 m3) v5.fst v5.snd.fst v5.snd.snd.fst v5.snd.snd.snd->∀ v6,v6=(limb v5.snd.fst 0==(0:Int)&&(limb v5.snd.fst 1==(0:Int)&&(limb v5.snd.fst 2==(0:Int)&&(limb v5.snd.fst 3==(0:Int)&&true))))->(v6=true->∀ (v7:Bool),v7=!(limb v5.fst 0==(1:Int)&&(limb v5.fst 1==(0:Int)&&(limb v5.fst 2==(0:Int)&&(limb v5.fst 3==(0:Int)&&true))))->(v7=true->((IntKind.u64=IntKind.u64/\0=limb (invF (val4 a0 a1 a2 a3) (val4 m0 m1 m2 m3)) 0)/\(IntKind.u64=IntKind.u64/\0=limb (invF (val4 a0 a1 a2 a3) (val4 m0 m1 m2 m3)) 1)/\(IntKind.u64=IntKind.u64/\0=limb (invF (val4 a0 a1 a2 a3) (val4 m0 m1 m2 m3)) 2)/\(IntKind.u64=IntKind.u64/\0=limb (invF (val4 a0 a1 a2 a3) (val4 m0 m1 m2 m3)) 3)/\True)/\false=okF (val4 a0 a1 a2 a3) (val4 m0 m1 m2 m3)/\True)/\(v7=false->((IntKind.u64=IntKind.u64/\limb v5.snd.snd.fst 0=limb (invF (val4 a0 a1 a2 a3) (val4 m0 m1 m2 m3)) 0)/\(IntKind.u64=IntKind.u64/\limb v5.snd.snd.fst 1=limb (invF (val4 a0 a1 a2 a3) (val4 m0 m1 m2 m3)) 1)/\(IntKind.u64=IntKind.u64/\limb v5.snd.snd.fst 2=limb (invF (val4 a0 a1 a2 a3) (val4 m0 m1 m2 m3)) 2)/\(IntKind.u64=IntKind.u64/\limb v5.snd.snd.fst 3=limb (invF (val4 a0 a1 a2 a3) (val4 m0 m1 m2 m3)) 3)/\True)/\true=okF (val4 a0 a1 a2 a3) (val4 m0 m1 m2 m3)/\True))/\(v6=false->(U64 (limb v5.fst 0)/\U64 (limb v5.fst 1)/\U64 (limb v5.fst 2)/\U64 (limb v5.fst 3)/\U64 0/\U64 0/\U64 0/\U64 0/\U64 (limb v5.snd.fst 0)/\U64 (limb v5.snd.fst 1)/\U64 (limb v5.snd.fst 2)/\U64 (limb v5.snd.fst 3))/\∀ v8,v8=qF (val4 (limb v5.fst 0) (limb v5.fst 1) (limb v5.fst 2) (limb v5.fst 3)) (0:Int) (val4 (limb v5.snd.fst 0) (limb v5.snd.fst 1) (limb v5.snd.fst 2) (limb v5.snd.fst 3))->∀ v9,v9=qF (val4 (limb v5.fst 0) (limb v5.fst 1) (limb v5.fst 2) (limb v5.fst 3)) (0:Int) (val4 (limb v5.snd.fst 0) (limb v5.snd.fst 1) (limb v5.snd.fst 2) (limb v5.snd.fst 3))/(115792089237316195423570985008687907853269984665640564039457584007913129639936:Int)->∀ v10,v10=rF (val4 (limb v5.fst 0) (limb v5.fst 1) (limb v5.fst 2) (limb v5.fst 3)) (0:Int) (val4 (limb v5.snd.fst 0) (limb v5.snd.fst 1) (limb v5.snd.fst 2) (limb v5.snd.fst 3))->∀ (v11:Int),(v11=if val4 (limb v5.snd.fst 0) (limb v5.snd.fst 1) (limb v5.snd.fst 2) (limb v5.snd.fst 3)=(0:Int) then (13:Int) else (0:Int))->(U64 (limb v8 0)/\U64 (limb v8 1)/\U64 (limb v8 2)/\U64 (limb v8 3)/\U64 (limb v5.snd.snd.snd 0)/\U64 (limb v5.snd.snd.snd 1)/\U64 (limb v5.snd.snd.snd 2)/\U64 (limb v5.snd.snd.snd 3)/\U64 m0/\U64 m1/\U64 m2/\U64 m3)/\∀ v12,v12=modF (val4 (limb v8 0) (limb v8 1) (limb v8 2) (limb v8 3)*val4 (limb v5.snd.snd.snd 0) (limb v5.snd.snd.snd 1) (limb v5.snd.snd.snd 2) (limb v5.snd.snd.snd 3)) (val4 m0 m1 m2 m3)->(U64 (limb v5.snd.snd.fst 0)/\U64 (limb v5.snd.snd.fst 1)/\U64 (limb v5.snd.snd.fst 2)/\U64 (limb v5.snd.snd.fst 3)/\U64 (limb v12 0)/\U64 (limb v12 1)/\U64 (limb v12 2)/\U64 (limb v12 3)/\U64 m0/\U64 m1/\U64 m2/\U64 m3)/\∀ v13,v13=modF (val4 (limb v5.snd.snd.fst 0) (limb v5.snd.snd.fst 1) (limb v5.snd.snd.fst 2) (limb v5.snd.snd.fst 3)-val4 (limb v12 0) (limb v12 1) (limb v12 2) (limb v12 3)) (val4 m0 m1 m2 m3)->∃ (x14:Int×Int×Int×Int),invR (val4 a0 a1 a2 a3) (val4 m0 m1 m2 m3) x14.fst x14.snd.fst x14.snd.snd.fst x14.snd.snd.snd/\((True/\True/\True/\false=false/\True/\True/\True/\True/\True/\True)/\(a0=a0/\a1=a1/\a2=a2/\a3=a3/\True)/\(m0=m0/\m1=m1/\m2=m2/\m3=m3/\True)/\((0:Int)=(0:Int)/\(0:Int)=(0:Int)/\(0:Int)=(0:Int)/\(0:Int)=(0:Int)/\True)/\((0:Int)=(0:Int)/\(0:Int)=(0:Int)/\(0:Int)=(0:Int)/\(0:Int)=(0:Int)/\True)/\(limb v5.snd.fst 0=limb x14.fst 0/\limb v5.snd.fst 1=limb x14.fst 1/\limb v5.snd.fst 2=limb x14.fst 2/\limb v5.snd.fst 3=limb x14.fst 3/\True)/\(limb v10 0=limb x14.snd.fst 0/\limb v10 1=limb x14.snd.fst 1/\limb v10 2=limb x14.snd.fst 2/\limb v10 3=limb x14.snd.fst 3/\True)/\(limb v5.snd.snd.snd 0=limb x14.snd.snd.fst 0/\limb v5.snd.snd.snd 1=limb x14.snd.snd.fst 1/\limb v5.snd.snd.snd 2=limb x14.snd.snd.fst 2/\limb v5.snd.snd.snd 3=limb x14.snd.snd.fst 3/\True)/\(limb v13 0=limb x14.snd.snd.snd 0/\limb v13 1=limb x14.snd.snd.snd 1/\limb v13 2=limb x14.snd.snd.snd 2/\limb v13 3=limb x14.snd.snd.snd 3/\True)/\True)/\x14.snd.fst.toNat<v5.snd.fst.toNat))
theorem tieMInv (w0:World) (a0:Int) (a1:Int) (a2:Int) (a3:Int) (m0:Int) (m1:Int) (m2:Int) (m3:Int):VCMInv a0 a1 a2 a3 m0 m1 m2 m3=((recN (GL Tryz.prog md3Spec md3AnnSpec md3CutSpec w0) 40).call 50 [.agg [.int .u64 (.sym a0),.int .u64 (.sym a1),.int .u64 (.sym a2),.int .u64 (.sym a3)],.agg [.int .u64 (.sym m0),.int .u64 (.sym m1),.int .u64 (.sym m2),.int .u64 (.sym m3)]] [] (fun r__ _=>eqV r__ (.tup [.agg [.int .u64 (.sym (limb (invF (val4 a0 a1 a2 a3) (val4 m0 m1 m2 m3)) 0)),.int .u64 (.sym (limb (invF (val4 a0 a1 a2 a3) (val4 m0 m1 m2 m3)) 1)),.int .u64 (.sym (limb (invF (val4 a0 a1 a2 a3) (val4 m0 m1 m2 m3)) 2)),.int .u64 (.sym (limb (invF (val4 a0 a1 a2 a3) (val4 m0 m1 m2 m3)) 3))],.bool (.sym (okF (val4 a0 a1 a2 a3) (val4 m0 m1 m2 m3)))]))):=by kernel_rfl
theorem limb00:(IntKind.u64=IntKind.u64/\(0:Int)=limb 0 0)/\(IntKind.u64=IntKind.u64/\(0:Int)=limb 0 1)/\(IntKind.u64=IntKind.u64/\(0:Int)=limb 0 2)/\(IntKind.u64=IntKind.u64/\(0:Int)=limb 0 3)/\True :=
 ⟨⟨rfl,(limb0 0).symm⟩,⟨rfl,(limb0 1).symm⟩,⟨rfl,(limb0 2).symm⟩,⟨rfl,(limb0 3).symm⟩,trivial⟩
theorem brnd {X A B:Prop} [Decidable X] (h1:¬ X->A) (h2:X->B) (v:Bool) (h:v=!decide X):(v=true->A)/\(v=false->B):=by
 subst h; by_cases x:X<;>simp [x,h1,h2]
theorem U64_0:U64 0:=by unfold U64; omega
theorem U64_1:U64 1:=by unfold U64; omega
theorem pureMInv (a0 a1 a2 a3 m0 m1 m2 m3:Int) (h:U64 a0/\U64 a1/\U64 a2/\U64 a3/\U64 m0/\U64 m1/\U64 m2/\U64 m3):VCMInv a0 a1 a2 a3 m0 m1 m2 m3:=by
 obtain ⟨ha0,ha1,ha2,ha3,hm0,hm1,hm2,hm3⟩:=h
 have bm:=val4_lt hm0 hm1 hm2 hm3
 have lm:=limbs4' hm0 hm1 hm2 hm3
 intro v1 h1
 rw [eq4 hm0 hm1 hm2 hm3 U64_0 U64_0 U64_0 U64_0] at h1
 refine br (fun e=>?_) (fun e=>?_) v1 h1
 ·have e':val4 m0 m1 m2 m3=0:=e
  rw [invF_none (Or.inl e')]
  exact ⟨limb00,by unfold okF; simp [e'],trivial⟩
 have e':val4 m0 m1 m2 m3≠0:=e
 refine ⟨⟨ha0,ha1,ha2,ha3,hm0,hm1,hm2,hm3⟩,fun v2 h2=>⟨⟨U64_1,U64_0,U64_0,U64_0,hm0,hm1,hm2,hm3⟩,fun v3 h3=>⟨⟨(val4 m0 m1 m2 m3,v2,0,v3),?_,⟨trivial,trivial,trivial,rfl,trivial,trivial,trivial,trivial,trivial,trivial⟩,⟨rfl,rfl,rfl,rfl,trivial⟩,⟨rfl,rfl,rfl,rfl,trivial⟩,⟨rfl,rfl,rfl,rfl,trivial⟩,⟨rfl,rfl,rfl,rfl,trivial⟩,⟨lm.1.symm,lm.2.1.symm,lm.2.2.1.symm,lm.2.2.2.symm,trivial⟩,⟨rfl,rfl,rfl,rfl,trivial⟩,⟨(limb0 0).symm,(limb0 1).symm,(limb0 2).symm,(limb0 3).symm,trivial⟩,⟨rfl,rfl,rfl,rfl,trivial⟩,trivial⟩,fun ⟨r,s,x,y⟩ hp v6 h6=>?_⟩⟩⟩
 ·unfold modF at h2 h3
  rw [if_neg e'] at h2 h3
  rw [h2,h3]
  exact inv_start (by omega)
 dsimp only at hp h6 ⊢
 have hp':=hp
 obtain ⟨hm,⟨s0,sr,rm⟩,⟨x0,x1⟩,⟨y0,y1⟩,ux,uy,g⟩:=hp'
 rw [eq4l (by omega) (by omega) U64_0 U64_0 U64_0 U64_0] at h6
 refine br (fun e6 v7 h7=>?_) (fun e6=>?_) v6 h6
 ·have e6:s=0:=e6
  rw [eq4l (by omega) (by omega) U64_1 U64_0 U64_0 U64_0] at h7
  subst e6
  rw [Int.gcd_zero_right] at g
  refine brnd (fun e7=>?_) (fun e7=>?_) v7 h7
  ·have e7:r≠1:=e7
   have e8:Int.gcd (val4 a0 a1 a2 a3) (val4 m0 m1 m2 m3)≠1:=by omega
   rw [invF_none (Or.inr e8)]
   exact ⟨limb00,by unfold okF; simp [e8],trivial⟩
  ·have e7:r=1:=e7
   subst e7
   rw [invF_eq x0 x1 ux]
   exact ⟨limb_eq rfl,by unfold okF; rw [← g]; simp [e'],trivial⟩
 have e6:s≠0:=e6
 have q0:0<=r/s:=Int.ediv_nonneg (by omega) (by omega)
 have q1:r/s<=r:=Int.ediv_le_self _ (by omega)
 refine ⟨⟨limb_in ..,limb_in ..,limb_in ..,limb_in ..,U64_0,U64_0,U64_0,U64_0,limb_in ..,limb_in ..,limb_in ..,limb_in ..⟩,fun v8 h8 v9 h9 v10 h10 v11 h11=>⟨⟨limb_in ..,limb_in ..,limb_in ..,limb_in ..,limb_in ..,limb_in ..,limb_in ..,limb_in ..,hm0,hm1,hm2,hm3⟩,fun v12 h12=>⟨⟨limb_in ..,limb_in ..,limb_in ..,limb_in ..,limb_in ..,limb_in ..,limb_in ..,limb_in ..,hm0,hm1,hm2,hm3⟩,fun v13 h13=>?_⟩⟩⟩
 have st:=inv_step hp e6
 have t0:=st.2.2.2.1
 have n12:0<=r/s*y%val4 m0 m1 m2 m3:=Int.emod_nonneg _ e'
 have l12:=Int.emod_lt_of_pos (r/s*y) (show 0<val4 m0 m1 m2 m3 by omega)
 rw [val4_limb' (x:=r) (by omega) (by omega),val4_limb' (x:=s) (by omega) (by omega)] at h8 h10
 unfold qF at h8
 unfold rF at h10
 rw [if_neg e6] at h8 h10
 rw [Int.zero_mul,Int.zero_add] at h8 h10
 unfold modF at h12 h13
 rw [if_neg e'] at h12 h13
 rw [h8,val4_limb' (x:=r/s) (by omega) (by omega),val4_limb' (x:=y) (by omega) (by omega)] at h12
 rw [h12,val4_limb' (x:=x) (by omega) (by omega),val4_limb' (by omega) (by omega)] at h13
 refine ⟨(s,v10,y,v13),?_,⟨⟨trivial,trivial,trivial,rfl,trivial,trivial,trivial,trivial,trivial,trivial⟩,⟨rfl,rfl,rfl,rfl,trivial⟩,⟨rfl,rfl,rfl,rfl,trivial⟩,⟨rfl,rfl,rfl,rfl,trivial⟩,⟨rfl,rfl,rfl,rfl,trivial⟩,⟨rfl,rfl,rfl,rfl,trivial⟩,⟨rfl,rfl,rfl,rfl,trivial⟩,⟨rfl,rfl,rfl,rfl,trivial⟩,⟨rfl,rfl,rfl,rfl,trivial⟩,trivial⟩,?_⟩
 ·rw [h10,h13]; exact st
 ·have:=st.2.1
  dsimp only
  omega
theorem mInv_ok:SpecOk Tryz.prog 50 mInvSpec:=by
 intro args k h
 unfold mInvSpec at h
 split at h
 ·rename_i a0 a1 a2 a3 m0 m1 m2 m3
  obtain ⟨hr,h⟩:=h
  exact ⟨_,h _ rfl _ rfl,PureOk.of_tie (GL Tryz.prog md3Spec md3AnnSpec md3CutSpec) (fun w__=>gokL w__ namesOk_ mixed_ md3_ok) (fun _=>rfl) (fun _=>rfl) (args':=[.agg [.int .u64 (.sym a0.val),.int .u64 (.sym a1.val),.int .u64 (.sym a2.val),.int .u64 (.sym a3.val)],.agg [.int .u64 (.sym m0.val),.int .u64 (.sym m1.val),.int .u64 (.sym m2.val),.int .u64 (.sym m3.val)]]) ⟨⟨⟨rfl,rfl⟩,⟨rfl,rfl⟩,⟨rfl,rfl⟩,⟨rfl,rfl⟩,trivial⟩,⟨⟨rfl,rfl⟩,⟨rfl,rfl⟩,⟨rfl,rfl⟩,⟨rfl,rfl⟩,trivial⟩,trivial⟩ 40 (fun w__=>VCMInv a0.val a1.val a2.val a3.val m0.val m1.val m2.val m3.val) (fun w__=>tieMInv w__ a0.val a1.val a2.val a3.val m0.val m1.val m2.val m3.val) (fun w__=>pureMInv a0.val a1.val a2.val a3.val m0.val m1.val m2.val m3.val hr)⟩
 ·exact h.elim

end Go.Proofs.YtaaobpalpcdlbaaGreat.Bits
