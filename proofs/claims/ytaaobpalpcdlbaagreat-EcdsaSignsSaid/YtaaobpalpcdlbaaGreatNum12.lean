import Derived.Test.YtaaobpalpcdlbaaGreatSxR
import Derived.Test.YtaaobpalpcdlbaaGreatProg
import Derived.Test.YtaaobpalpcdlbaaGreatNum11
import Derived.KernelRfl
namespace Go.Proofs.YtaaobpalpcdlbaaGreat.Bits
open Go Go.Sx Go.RowKit
set_option linter.unusedVariables false
set_option maxRecDepth 100000
def md2Spec:List (FuncId×CSpec):=[(53,remSpec),(84,lowSpec),(94,addSpec),(95,subSpec),(109,mulSpec)]
theorem md2_ok:SpecsOk Tryz.prog md2Spec:=⟨rem_ok,low_ok,add_ok,sub_ok,mul_ok,trivial⟩
theorem limb_cong {x y:Int} (h:x%115792089237316195423570985008687907853269984665640564039457584007913129639936=y%115792089237316195423570985008687907853269984665640564039457584007913129639936):(IntKind.u64=IntKind.u64/\limb x 0=limb y 0)/\(IntKind.u64=IntKind.u64/\limb x 1=limb y 1)/\(IntKind.u64=IntKind.u64/\limb x 2=limb y 2)/\(IntKind.u64=IntKind.u64/\limb x 3=limb y 3)/\True:=by
 obtain ⟨a,b,c,d⟩:=limbE x
 obtain ⟨a',b',c',d'⟩:=limbE y
 rw [a,b,c,d,a',b',c',d']
 refine ⟨⟨rfl,?_⟩,⟨rfl,?_⟩,⟨rfl,?_⟩,⟨rfl,?_⟩,trivial⟩<;>omega
theorem limb_eq {x y:Int} (h:x=y):(IntKind.u64=IntKind.u64/\limb x 0=limb y 0)/\(IntKind.u64=IntKind.u64/\limb x 1=limb y 1)/\(IntKind.u64=IntKind.u64/\limb x 2=limb y 2)/\(IntKind.u64=IntKind.u64/\limb x 3=limb y 3)/\True:=limb_cong (by rw [h])
theorem modF_add {a b m:Int} (hm:0<=m):modF (a+b) m=if modF a m+modF b m<m\/m=0 then modF a m+modF b m else modF a m+modF b m-m:=by
 unfold modF
 by_cases h:m=0
 ·simp [h]
 ·rw [if_neg h,if_neg h,if_neg h,Int.add_emod]
  have h1:=Int.emod_nonneg a h
  have h2:=Int.emod_nonneg b h
  have h3:=Int.emod_lt_of_pos a (show 0<m by omega)
  have h4:=Int.emod_lt_of_pos b (show 0<m by omega)
  generalize a%m=x at *
  generalize b%m=y at *
  split
  ·exact Int.emod_eq_of_lt (by omega) (by omega)
  ·rw [← Int.sub_emod_right]; exact Int.emod_eq_of_lt (by omega) (by omega)
theorem modF_sub {a b m:Int} (hm:0<=m):modF (a-b) m=if modF a m<modF b m then modF a m-modF b m+m else modF a m-modF b m:=by
 unfold modF
 by_cases h:m=0
 ·simp [h]
 ·rw [if_neg h,if_neg h,if_neg h,Int.sub_emod]
  have h1:=Int.emod_nonneg a h
  have h2:=Int.emod_nonneg b h
  have h3:=Int.emod_lt_of_pos a (show 0<m by omega)
  have h4:=Int.emod_lt_of_pos b (show 0<m by omega)
  generalize a%m=x at *
  generalize b%m=y at *
  split
  ·rw [← Int.add_emod_right]; exact Int.emod_eq_of_lt (by omega) (by omega)
  ·exact Int.emod_eq_of_lt (by omega) (by omega)
def mAddSpec:CSpec
 | [.agg [.int .u64 a0,.int .u64 a1,.int .u64 a2,.int .u64 a3],.agg [.int .u64 b0,.int .u64 b1,.int .u64 b2,.int .u64 b3],.agg [.int .u64 m0,.int .u64 m1,.int .u64 m2,.int .u64 m3]],k=>((U64 a0.val)/\(U64 a1.val)/\(U64 a2.val)/\(U64 a3.val)/\(U64 b0.val)/\(U64 b1.val)/\(U64 b2.val)/\(U64 b3.val)/\(U64 m0.val)/\(U64 m1.val)/\(U64 m2.val)/\(U64 m3.val))/\(∀ r0:Int,r0=(modF ((val4 a0.val a1.val a2.val a3.val)+(val4 b0.val b1.val b2.val b3.val)) (val4 m0.val m1.val m2.val m3.val))->k (.agg [.int .u64 (.sym (limb r0 0)),.int .u64 (.sym (limb r0 1)),.int .u64 (.sym (limb r0 2)),.int .u64 (.sym (limb r0 3))]))
 | _,_=>False
def VCMAdd (a0:Int) (a1:Int) (a2:Int) (a3:Int) (b0:Int) (b1:Int) (b2:Int) (b3:Int) (m0:Int) (m1:Int) (m2:Int) (m3:Int):Prop :=
 (U64 a0/\U64 a1/\U64 a2/\U64 a3/\U64 m0/\U64 m1/\U64 m2/\U64 m3)/\∀ v1,v1=modF (val4 a0 a1 a2 a3) (val4 m0 m1 m2 m3)->(U64 b0/\U64 b1/\U64 b2/\U64 b3/\U64 m0/\U64 m1/\U64 m2/\U64 m3)/\∀ v2,v2=modF (val4 b0 b1 b2 b3) (val4 m0 m1 m2 m3)->(U64 (limb v1 0)/\U64 (limb v1 1)/\U64 (limb v1 2)/\U64 (limb v1 3)/\U64 (limb v2 0)/\U64 (limb v2 1)/\U64 (limb v2 2)/\U64 (limb v2 3))/\∀ v3,v3=val4 (limb v1 0) (limb v1 1) (limb v1 2) (limb v1 3)+val4 (limb v2 0) (limb v2 1) (limb v2 2) (limb v2 3)->∀ v4,v4=(val4 (limb v1 0) (limb v1 1) (limb v1 2) (limb v1 3)+val4 (limb v2 0) (limb v2 1) (limb v2 2) (limb v2 3))/(115792089237316195423570985008687907853269984665640564039457584007913129639936:Int)->(U64 (limb v3 0)/\U64 (limb v3 1)/\U64 (limb v3 2)/\U64 (limb v3 3)/\U64 m0/\U64 m1/\U64 m2/\U64 m3)/\∀ v5,v5=val4 (limb v3 0) (limb v3 1) (limb v3 2) (limb v3 3)-val4 m0 m1 m2 m3->∀ (v6:Int),(v6=if val4 (limb v3 0) (limb v3 1) (limb v3 2) (limb v3 3)<val4 m0 m1 m2 m3 then 1 else 0)->∀ v7,v7=(v4==(1:Int))->(v7=false->∀ v8,v8=(v6==(0:Int))->(v8=true->(IntKind.u64=IntKind.u64/\limb v5 0=limb (modF (val4 a0 a1 a2 a3+val4 b0 b1 b2 b3) (val4 m0 m1 m2 m3)) 0)/\(IntKind.u64=IntKind.u64/\limb v5 1=limb (modF (val4 a0 a1 a2 a3+val4 b0 b1 b2 b3) (val4 m0 m1 m2 m3)) 1)/\(IntKind.u64=IntKind.u64/\limb v5 2=limb (modF (val4 a0 a1 a2 a3+val4 b0 b1 b2 b3) (val4 m0 m1 m2 m3)) 2)/\(IntKind.u64=IntKind.u64/\limb v5 3=limb (modF (val4 a0 a1 a2 a3+val4 b0 b1 b2 b3) (val4 m0 m1 m2 m3)) 3)/\True)/\(v8=false->(IntKind.u64=IntKind.u64/\limb v3 0=limb (modF (val4 a0 a1 a2 a3+val4 b0 b1 b2 b3) (val4 m0 m1 m2 m3)) 0)/\(IntKind.u64=IntKind.u64/\limb v3 1=limb (modF (val4 a0 a1 a2 a3+val4 b0 b1 b2 b3) (val4 m0 m1 m2 m3)) 1)/\(IntKind.u64=IntKind.u64/\limb v3 2=limb (modF (val4 a0 a1 a2 a3+val4 b0 b1 b2 b3) (val4 m0 m1 m2 m3)) 2)/\(IntKind.u64=IntKind.u64/\limb v3 3=limb (modF (val4 a0 a1 a2 a3+val4 b0 b1 b2 b3) (val4 m0 m1 m2 m3)) 3)/\True))/\(v7=true->(IntKind.u64=IntKind.u64/\limb v5 0=limb (modF (val4 a0 a1 a2 a3+val4 b0 b1 b2 b3) (val4 m0 m1 m2 m3)) 0)/\(IntKind.u64=IntKind.u64/\limb v5 1=limb (modF (val4 a0 a1 a2 a3+val4 b0 b1 b2 b3) (val4 m0 m1 m2 m3)) 1)/\(IntKind.u64=IntKind.u64/\limb v5 2=limb (modF (val4 a0 a1 a2 a3+val4 b0 b1 b2 b3) (val4 m0 m1 m2 m3)) 2)/\(IntKind.u64=IntKind.u64/\limb v5 3=limb (modF (val4 a0 a1 a2 a3+val4 b0 b1 b2 b3) (val4 m0 m1 m2 m3)) 3)/\True)
theorem tieMAdd (w0:World) (a0:Int) (a1:Int) (a2:Int) (a3:Int) (b0:Int) (b1:Int) (b2:Int) (b3:Int) (m0:Int) (m1:Int) (m2:Int) (m3:Int):VCMAdd a0 a1 a2 a3 b0 b1 b2 b3 m0 m1 m2 m3=((recN (GC Tryz.prog md2Spec w0) 30).call 61 [.agg [.int .u64 (.sym a0),.int .u64 (.sym a1),.int .u64 (.sym a2),.int .u64 (.sym a3)],.agg [.int .u64 (.sym b0),.int .u64 (.sym b1),.int .u64 (.sym b2),.int .u64 (.sym b3)],.agg [.int .u64 (.sym m0),.int .u64 (.sym m1),.int .u64 (.sym m2),.int .u64 (.sym m3)]] [] (fun r__ _=>eqV r__ (.agg [.int .u64 (.sym (limb (modF ((val4 a0 a1 a2 a3)+(val4 b0 b1 b2 b3)) (val4 m0 m1 m2 m3)) 0)),.int .u64 (.sym (limb (modF ((val4 a0 a1 a2 a3)+(val4 b0 b1 b2 b3)) (val4 m0 m1 m2 m3)) 1)),.int .u64 (.sym (limb (modF ((val4 a0 a1 a2 a3)+(val4 b0 b1 b2 b3)) (val4 m0 m1 m2 m3)) 2)),.int .u64 (.sym (limb (modF ((val4 a0 a1 a2 a3)+(val4 b0 b1 b2 b3)) (val4 m0 m1 m2 m3)) 3))]))):=by kernel_rfl
theorem pureMAdd (a0 a1 a2 a3 b0 b1 b2 b3 m0 m1 m2 m3:Int) (h:U64 a0/\U64 a1/\U64 a2/\U64 a3/\U64 b0/\U64 b1/\U64 b2/\U64 b3/\U64 m0/\U64 m1/\U64 m2/\U64 m3):VCMAdd a0 a1 a2 a3 b0 b1 b2 b3 m0 m1 m2 m3:=by
 obtain ⟨ha0,ha1,ha2,ha3,hb0,hb1,hb2,hb3,hm0,hm1,hm2,hm3⟩:=h
 have bm:=val4_lt hm0 hm1 hm2 hm3
 refine ⟨⟨ha0,ha1,ha2,ha3,hm0,hm1,hm2,hm3⟩,fun v1 h1=>⟨⟨hb0,hb1,hb2,hb3,hm0,hm1,hm2,hm3⟩,fun v2 h2=>⟨⟨limb_in ..,limb_in ..,limb_in ..,limb_in ..,limb_in ..,limb_in ..,limb_in ..,limb_in ..⟩,fun v3 h3 v4 h4=>⟨⟨limb_in ..,limb_in ..,limb_in ..,limb_in ..,hm0,hm1,hm2,hm3⟩,fun v5 h5 v6 h6=>?_⟩⟩⟩⟩
 have r1:=modF_in (x:=val4 a0 a1 a2 a3) bm.1
 have r2:=modF_in (x:=val4 b0 b1 b2 b3) bm.1
 rw [modF_add bm.1]
 rw [← h1,← h2] at *
 rw [val4_limb' (x:=v1) (by omega) (by omega),val4_limb' (x:=v2) (by omega) (by omega)] at h3 h4
 rw [val4_limb] at h5 h6
 generalize val4 m0 m1 m2 m3=M at *
 clear h1 h2
 refine rbE (fun e7=>brE (fun e8=>limb_cong ?_) fun e8=>limb_cong ?_) fun e7=>limb_cong ?_
 all_goals
  subst h3 h4 h5
  (repeat' split at h6)<;>(repeat' split)<;>omega
theorem mAdd_ok:SpecOk Tryz.prog 61 mAddSpec:=by
 intro args k h
 unfold mAddSpec at h
 split at h
 ·rename_i a0 a1 a2 a3 b0 b1 b2 b3 m0 m1 m2 m3
  obtain ⟨hr,h⟩:=h
  exact ⟨_,h _ rfl,PureOk.of_tie (GC Tryz.prog md2Spec) (fun w__=>gok w__ namesOk_ mixed_ md2_ok) (fun _=>rfl) (fun _=>rfl) (args':=[.agg [.int .u64 (.sym a0.val),.int .u64 (.sym a1.val),.int .u64 (.sym a2.val),.int .u64 (.sym a3.val)],.agg [.int .u64 (.sym b0.val),.int .u64 (.sym b1.val),.int .u64 (.sym b2.val),.int .u64 (.sym b3.val)],.agg [.int .u64 (.sym m0.val),.int .u64 (.sym m1.val),.int .u64 (.sym m2.val),.int .u64 (.sym m3.val)]]) ⟨⟨⟨rfl,rfl⟩,⟨rfl,rfl⟩,⟨rfl,rfl⟩,⟨rfl,rfl⟩,trivial⟩,⟨⟨rfl,rfl⟩,⟨rfl,rfl⟩,⟨rfl,rfl⟩,⟨rfl,rfl⟩,trivial⟩,⟨⟨rfl,rfl⟩,⟨rfl,rfl⟩,⟨rfl,rfl⟩,⟨rfl,rfl⟩,trivial⟩,trivial⟩ 30 (fun w__=>VCMAdd a0.val a1.val a2.val a3.val b0.val b1.val b2.val b3.val m0.val m1.val m2.val m3.val) (fun w__=>tieMAdd w__ a0.val a1.val a2.val a3.val b0.val b1.val b2.val b3.val m0.val m1.val m2.val m3.val) (fun w__=>pureMAdd a0.val a1.val a2.val a3.val b0.val b1.val b2.val b3.val m0.val m1.val m2.val m3.val hr)⟩
 ·exact h.elim

def mSubSpec:CSpec
 | [.agg [.int .u64 a0,.int .u64 a1,.int .u64 a2,.int .u64 a3],.agg [.int .u64 b0,.int .u64 b1,.int .u64 b2,.int .u64 b3],.agg [.int .u64 m0,.int .u64 m1,.int .u64 m2,.int .u64 m3]],k=>((U64 a0.val)/\(U64 a1.val)/\(U64 a2.val)/\(U64 a3.val)/\(U64 b0.val)/\(U64 b1.val)/\(U64 b2.val)/\(U64 b3.val)/\(U64 m0.val)/\(U64 m1.val)/\(U64 m2.val)/\(U64 m3.val))/\(∀ r0:Int,r0=(modF ((val4 a0.val a1.val a2.val a3.val)-(val4 b0.val b1.val b2.val b3.val)) (val4 m0.val m1.val m2.val m3.val))->k (.agg [.int .u64 (.sym (limb r0 0)),.int .u64 (.sym (limb r0 1)),.int .u64 (.sym (limb r0 2)),.int .u64 (.sym (limb r0 3))]))
 | _,_=>False
def VCMSub (a0:Int) (a1:Int) (a2:Int) (a3:Int) (b0:Int) (b1:Int) (b2:Int) (b3:Int) (m0:Int) (m1:Int) (m2:Int) (m3:Int):Prop :=
 (U64 a0/\U64 a1/\U64 a2/\U64 a3/\U64 m0/\U64 m1/\U64 m2/\U64 m3)/\∀ v1,v1=modF (val4 a0 a1 a2 a3) (val4 m0 m1 m2 m3)->(U64 b0/\U64 b1/\U64 b2/\U64 b3/\U64 m0/\U64 m1/\U64 m2/\U64 m3)/\∀ v2,v2=modF (val4 b0 b1 b2 b3) (val4 m0 m1 m2 m3)->(U64 (limb v1 0)/\U64 (limb v1 1)/\U64 (limb v1 2)/\U64 (limb v1 3)/\U64 (limb v2 0)/\U64 (limb v2 1)/\U64 (limb v2 2)/\U64 (limb v2 3))/\∀ v3,v3=val4 (limb v1 0) (limb v1 1) (limb v1 2) (limb v1 3)-val4 (limb v2 0) (limb v2 1) (limb v2 2) (limb v2 3)->∀ (v4:Int),(v4=if val4 (limb v1 0) (limb v1 1) (limb v1 2) (limb v1 3)<val4 (limb v2 0) (limb v2 1) (limb v2 2) (limb v2 3) then (1:Int) else (0:Int))->∀ v5,v5=(v4==(1:Int))->(v5=true->(U64 (limb v3 0)/\U64 (limb v3 1)/\U64 (limb v3 2)/\U64 (limb v3 3)/\U64 m0/\U64 m1/\U64 m2/\U64 m3)/\∀ v6,v6=val4 (limb v3 0) (limb v3 1) (limb v3 2) (limb v3 3)+val4 m0 m1 m2 m3->∀ v7,v7=(val4 (limb v3 0) (limb v3 1) (limb v3 2) (limb v3 3)+val4 m0 m1 m2 m3)/(115792089237316195423570985008687907853269984665640564039457584007913129639936:Int)->(IntKind.u64=IntKind.u64/\limb v6 0=limb (modF (val4 a0 a1 a2 a3-val4 b0 b1 b2 b3) (val4 m0 m1 m2 m3)) 0)/\(IntKind.u64=IntKind.u64/\limb v6 1=limb (modF (val4 a0 a1 a2 a3-val4 b0 b1 b2 b3) (val4 m0 m1 m2 m3)) 1)/\(IntKind.u64=IntKind.u64/\limb v6 2=limb (modF (val4 a0 a1 a2 a3-val4 b0 b1 b2 b3) (val4 m0 m1 m2 m3)) 2)/\(IntKind.u64=IntKind.u64/\limb v6 3=limb (modF (val4 a0 a1 a2 a3-val4 b0 b1 b2 b3) (val4 m0 m1 m2 m3)) 3)/\True)/\(v5=false->(IntKind.u64=IntKind.u64/\limb v3 0=limb (modF (val4 a0 a1 a2 a3-val4 b0 b1 b2 b3) (val4 m0 m1 m2 m3)) 0)/\(IntKind.u64=IntKind.u64/\limb v3 1=limb (modF (val4 a0 a1 a2 a3-val4 b0 b1 b2 b3) (val4 m0 m1 m2 m3)) 1)/\(IntKind.u64=IntKind.u64/\limb v3 2=limb (modF (val4 a0 a1 a2 a3-val4 b0 b1 b2 b3) (val4 m0 m1 m2 m3)) 2)/\(IntKind.u64=IntKind.u64/\limb v3 3=limb (modF (val4 a0 a1 a2 a3-val4 b0 b1 b2 b3) (val4 m0 m1 m2 m3)) 3)/\True)
theorem tieMSub (w0:World) (a0:Int) (a1:Int) (a2:Int) (a3:Int) (b0:Int) (b1:Int) (b2:Int) (b3:Int) (m0:Int) (m1:Int) (m2:Int) (m3:Int):VCMSub a0 a1 a2 a3 b0 b1 b2 b3 m0 m1 m2 m3=((recN (GC Tryz.prog md2Spec w0) 30).call 64 [.agg [.int .u64 (.sym a0),.int .u64 (.sym a1),.int .u64 (.sym a2),.int .u64 (.sym a3)],.agg [.int .u64 (.sym b0),.int .u64 (.sym b1),.int .u64 (.sym b2),.int .u64 (.sym b3)],.agg [.int .u64 (.sym m0),.int .u64 (.sym m1),.int .u64 (.sym m2),.int .u64 (.sym m3)]] [] (fun r__ _=>eqV r__ (.agg [.int .u64 (.sym (limb (modF ((val4 a0 a1 a2 a3)-(val4 b0 b1 b2 b3)) (val4 m0 m1 m2 m3)) 0)),.int .u64 (.sym (limb (modF ((val4 a0 a1 a2 a3)-(val4 b0 b1 b2 b3)) (val4 m0 m1 m2 m3)) 1)),.int .u64 (.sym (limb (modF ((val4 a0 a1 a2 a3)-(val4 b0 b1 b2 b3)) (val4 m0 m1 m2 m3)) 2)),.int .u64 (.sym (limb (modF ((val4 a0 a1 a2 a3)-(val4 b0 b1 b2 b3)) (val4 m0 m1 m2 m3)) 3))]))):=by kernel_rfl
theorem pureMSub (a0 a1 a2 a3 b0 b1 b2 b3 m0 m1 m2 m3:Int) (h:U64 a0/\U64 a1/\U64 a2/\U64 a3/\U64 b0/\U64 b1/\U64 b2/\U64 b3/\U64 m0/\U64 m1/\U64 m2/\U64 m3):VCMSub a0 a1 a2 a3 b0 b1 b2 b3 m0 m1 m2 m3:=by
 obtain ⟨ha0,ha1,ha2,ha3,hb0,hb1,hb2,hb3,hm0,hm1,hm2,hm3⟩:=h
 have bm:=val4_lt hm0 hm1 hm2 hm3
 refine ⟨⟨ha0,ha1,ha2,ha3,hm0,hm1,hm2,hm3⟩,fun v1 h1=>⟨⟨hb0,hb1,hb2,hb3,hm0,hm1,hm2,hm3⟩,fun v2 h2=>⟨⟨limb_in ..,limb_in ..,limb_in ..,limb_in ..,limb_in ..,limb_in ..,limb_in ..,limb_in ..⟩,fun v3 h3 v4 h4=>?_⟩⟩⟩
 have r1:=modF_in (x:=val4 a0 a1 a2 a3) bm.1
 have r2:=modF_in (x:=val4 b0 b1 b2 b3) bm.1
 rw [modF_sub bm.1]
 rw [← h1,← h2] at *
 rw [val4_limb' (x:=v1) (by omega) (by omega),val4_limb' (x:=v2) (by omega) (by omega)] at h3 h4
 refine brE (fun e5=>⟨⟨limb_in ..,limb_in ..,limb_in ..,limb_in ..,hm0,hm1,hm2,hm3⟩,fun v6 h6 v7 h7=>?_⟩) fun e5=>limb_cong ?_
 ·rw [val4_limb] at h6
  generalize val4 m0 m1 m2 m3=M at *
  clear h1 h2 h7
  refine limb_cong ?_
  subst h3 h6
  split at h4<;>omega
 ·clear h1 h2
  subst h3
  split at h4<;>omega
theorem mSub_ok:SpecOk Tryz.prog 64 mSubSpec:=by
 intro args k h
 unfold mSubSpec at h
 split at h
 ·rename_i a0 a1 a2 a3 b0 b1 b2 b3 m0 m1 m2 m3
  obtain ⟨hr,h⟩:=h
  exact ⟨_,h _ rfl,PureOk.of_tie (GC Tryz.prog md2Spec) (fun w__=>gok w__ namesOk_ mixed_ md2_ok) (fun _=>rfl) (fun _=>rfl) (args':=[.agg [.int .u64 (.sym a0.val),.int .u64 (.sym a1.val),.int .u64 (.sym a2.val),.int .u64 (.sym a3.val)],.agg [.int .u64 (.sym b0.val),.int .u64 (.sym b1.val),.int .u64 (.sym b2.val),.int .u64 (.sym b3.val)],.agg [.int .u64 (.sym m0.val),.int .u64 (.sym m1.val),.int .u64 (.sym m2.val),.int .u64 (.sym m3.val)]]) ⟨⟨⟨rfl,rfl⟩,⟨rfl,rfl⟩,⟨rfl,rfl⟩,⟨rfl,rfl⟩,trivial⟩,⟨⟨rfl,rfl⟩,⟨rfl,rfl⟩,⟨rfl,rfl⟩,⟨rfl,rfl⟩,trivial⟩,⟨⟨rfl,rfl⟩,⟨rfl,rfl⟩,⟨rfl,rfl⟩,⟨rfl,rfl⟩,trivial⟩,trivial⟩ 30 (fun w__=>VCMSub a0.val a1.val a2.val a3.val b0.val b1.val b2.val b3.val m0.val m1.val m2.val m3.val) (fun w__=>tieMSub w__ a0.val a1.val a2.val a3.val b0.val b1.val b2.val b3.val m0.val m1.val m2.val m3.val) (fun w__=>pureMSub a0.val a1.val a2.val a3.val b0.val b1.val b2.val b3.val m0.val m1.val m2.val m3.val hr)⟩
 ·exact h.elim

def mMulSpec:CSpec
 | [.agg [.int .u64 a0,.int .u64 a1,.int .u64 a2,.int .u64 a3],.agg [.int .u64 b0,.int .u64 b1,.int .u64 b2,.int .u64 b3],.agg [.int .u64 m0,.int .u64 m1,.int .u64 m2,.int .u64 m3]],k=>((U64 a0.val)/\(U64 a1.val)/\(U64 a2.val)/\(U64 a3.val)/\(U64 b0.val)/\(U64 b1.val)/\(U64 b2.val)/\(U64 b3.val)/\(U64 m0.val)/\(U64 m1.val)/\(U64 m2.val)/\(U64 m3.val))/\(∀ r0:Int,r0=(modF ((val4 a0.val a1.val a2.val a3.val)*(val4 b0.val b1.val b2.val b3.val)) (val4 m0.val m1.val m2.val m3.val))->k (.agg [.int .u64 (.sym (limb r0 0)),.int .u64 (.sym (limb r0 1)),.int .u64 (.sym (limb r0 2)),.int .u64 (.sym (limb r0 3))]))
 | _,_=>False
def VCMMul (a0:Int) (a1:Int) (a2:Int) (a3:Int) (b0:Int) (b1:Int) (b2:Int) (b3:Int) (m0:Int) (m1:Int) (m2:Int) (m3:Int):Prop :=
 (U64 a0/\U64 a1/\U64 a2/\U64 a3/\U64 b0/\U64 b1/\U64 b2/\U64 b3)/\∀ v1,v1=val4 a0 a1 a2 a3*val4 b0 b1 b2 b3->∀ v2,v2=val4 a0 a1 a2 a3*val4 b0 b1 b2 b3/(115792089237316195423570985008687907853269984665640564039457584007913129639936:Int)->(U64 (limb v1 0)/\U64 (limb v1 1)/\U64 (limb v1 2)/\U64 (limb v1 3)/\U64 (limb v2 0)/\U64 (limb v2 1)/\U64 (limb v2 2)/\U64 (limb v2 3)/\U64 m0/\U64 m1/\U64 m2/\U64 m3)/\∀ v3,v3=rF (val4 (limb v1 0) (limb v1 1) (limb v1 2) (limb v1 3)) (val4 (limb v2 0) (limb v2 1) (limb v2 2) (limb v2 3)) (val4 m0 m1 m2 m3)->(IntKind.u64=IntKind.u64/\limb v3 0=limb (modF (val4 a0 a1 a2 a3*val4 b0 b1 b2 b3) (val4 m0 m1 m2 m3)) 0)/\(IntKind.u64=IntKind.u64/\limb v3 1=limb (modF (val4 a0 a1 a2 a3*val4 b0 b1 b2 b3) (val4 m0 m1 m2 m3)) 1)/\(IntKind.u64=IntKind.u64/\limb v3 2=limb (modF (val4 a0 a1 a2 a3*val4 b0 b1 b2 b3) (val4 m0 m1 m2 m3)) 2)/\(IntKind.u64=IntKind.u64/\limb v3 3=limb (modF (val4 a0 a1 a2 a3*val4 b0 b1 b2 b3) (val4 m0 m1 m2 m3)) 3)/\True
theorem tieMMul (w0:World) (a0:Int) (a1:Int) (a2:Int) (a3:Int) (b0:Int) (b1:Int) (b2:Int) (b3:Int) (m0:Int) (m1:Int) (m2:Int) (m3:Int):VCMMul a0 a1 a2 a3 b0 b1 b2 b3 m0 m1 m2 m3=((recN (GC Tryz.prog md2Spec w0) 30).call 86 [.agg [.int .u64 (.sym a0),.int .u64 (.sym a1),.int .u64 (.sym a2),.int .u64 (.sym a3)],.agg [.int .u64 (.sym b0),.int .u64 (.sym b1),.int .u64 (.sym b2),.int .u64 (.sym b3)],.agg [.int .u64 (.sym m0),.int .u64 (.sym m1),.int .u64 (.sym m2),.int .u64 (.sym m3)]] [] (fun r__ _=>eqV r__ (.agg [.int .u64 (.sym (limb (modF ((val4 a0 a1 a2 a3)*(val4 b0 b1 b2 b3)) (val4 m0 m1 m2 m3)) 0)),.int .u64 (.sym (limb (modF ((val4 a0 a1 a2 a3)*(val4 b0 b1 b2 b3)) (val4 m0 m1 m2 m3)) 1)),.int .u64 (.sym (limb (modF ((val4 a0 a1 a2 a3)*(val4 b0 b1 b2 b3)) (val4 m0 m1 m2 m3)) 2)),.int .u64 (.sym (limb (modF ((val4 a0 a1 a2 a3)*(val4 b0 b1 b2 b3)) (val4 m0 m1 m2 m3)) 3))]))):=by kernel_rfl
theorem pureMMul (a0 a1 a2 a3 b0 b1 b2 b3 m0 m1 m2 m3:Int) (h:U64 a0/\U64 a1/\U64 a2/\U64 a3/\U64 b0/\U64 b1/\U64 b2/\U64 b3/\U64 m0/\U64 m1/\U64 m2/\U64 m3):VCMMul a0 a1 a2 a3 b0 b1 b2 b3 m0 m1 m2 m3:=by
 obtain ⟨ha0,ha1,ha2,ha3,hb0,hb1,hb2,hb3,hm0,hm1,hm2,hm3⟩:=h
 have ba:=val4_lt ha0 ha1 ha2 ha3
 have bb:=val4_lt hb0 hb1 hb2 hb3
 refine ⟨⟨ha0,ha1,ha2,ha3,hb0,hb1,hb2,hb3⟩,fun v1 h1 v2 h2=>⟨⟨limb_in ..,limb_in ..,limb_in ..,limb_in ..,limb_in ..,limb_in ..,limb_in ..,limb_in ..,hm0,hm1,hm2,hm3⟩,fun v3 h3=>limb_eq ?_⟩⟩
 have p0:0<=v1:=by rw [h1]; exact Int.mul_nonneg ba.1 bb.1
 have p1:v1<115792089237316195423570985008687907853269984665640564039457584007913129639936*115792089237316195423570985008687907853269984665640564039457584007913129639936:=by
  rw [h1]
  have:=Int.mul_le_mul (show val4 a0 a1 a2 a3<=115792089237316195423570985008687907853269984665640564039457584007913129639936-1 by omega) (show val4 b0 b1 b2 b3<=115792089237316195423570985008687907853269984665640564039457584007913129639936-1 by omega) bb.1 (by omega)
  omega
 rw [← h1] at h2 ⊢
 rw [val4_limb,val4_limb' (x:=v2) (by omega) (by omega)] at h3
 rw [h3]
 show modF _ _=_
 congr 1
 omega
theorem mMul_ok:SpecOk Tryz.prog 86 mMulSpec:=by
 intro args k h
 unfold mMulSpec at h
 split at h
 ·rename_i a0 a1 a2 a3 b0 b1 b2 b3 m0 m1 m2 m3
  obtain ⟨hr,h⟩:=h
  exact ⟨_,h _ rfl,PureOk.of_tie (GC Tryz.prog md2Spec) (fun w__=>gok w__ namesOk_ mixed_ md2_ok) (fun _=>rfl) (fun _=>rfl) (args':=[.agg [.int .u64 (.sym a0.val),.int .u64 (.sym a1.val),.int .u64 (.sym a2.val),.int .u64 (.sym a3.val)],.agg [.int .u64 (.sym b0.val),.int .u64 (.sym b1.val),.int .u64 (.sym b2.val),.int .u64 (.sym b3.val)],.agg [.int .u64 (.sym m0.val),.int .u64 (.sym m1.val),.int .u64 (.sym m2.val),.int .u64 (.sym m3.val)]]) ⟨⟨⟨rfl,rfl⟩,⟨rfl,rfl⟩,⟨rfl,rfl⟩,⟨rfl,rfl⟩,trivial⟩,⟨⟨rfl,rfl⟩,⟨rfl,rfl⟩,⟨rfl,rfl⟩,⟨rfl,rfl⟩,trivial⟩,⟨⟨rfl,rfl⟩,⟨rfl,rfl⟩,⟨rfl,rfl⟩,⟨rfl,rfl⟩,trivial⟩,trivial⟩ 30 (fun w__=>VCMMul a0.val a1.val a2.val a3.val b0.val b1.val b2.val b3.val m0.val m1.val m2.val m3.val) (fun w__=>tieMMul w__ a0.val a1.val a2.val a3.val b0.val b1.val b2.val b3.val m0.val m1.val m2.val m3.val) (fun w__=>pureMMul a0.val a1.val a2.val a3.val b0.val b1.val b2.val b3.val m0.val m1.val m2.val m3.val hr)⟩
 ·exact h.elim

end Go.Proofs.YtaaobpalpcdlbaaGreat.Bits
