import Derived.Test.YtaaobpalpcdlbaaGreatSxR
import Derived.Test.YtaaobpalpcdlbaaGreatProg
import Derived.Test.YtaaobpalpcdlbaaGreatRef2
import Derived.KernelRfl
namespace Go.Proofs.YtaaobpalpcdlbaaGreat.Bits
open Go Go.Sx Go.RowKit
set_option linter.unusedVariables false
set_option maxRecDepth 100000
def ref3Spec:List (FuncId×CSpec):=[(59,rRemSpec),(91,rAddSpec),(97,rSubSpec),(98,productSpec)]
theorem ref3_ok:SpecsOk Tryz.prog ref3Spec:=⟨rRem_ok,rAdd_ok,rSub_ok,product_ok,trivial⟩
theorem rF_modF {lo hi m x:Int} (h:x=hi*115792089237316195423570985008687907853269984665640564039457584007913129639936+lo):rF lo hi m=modF x m:=by unfold rF modF; rw [h]
def r2AddSpec:CSpec
 | [.agg [.int .u64 a0,.int .u64 a1,.int .u64 a2,.int .u64 a3],.agg [.int .u64 b0,.int .u64 b1,.int .u64 b2,.int .u64 b3],.agg [.int .u64 m0,.int .u64 m1,.int .u64 m2,.int .u64 m3]],k=>((U64 a0.val)/\(U64 a1.val)/\(U64 a2.val)/\(U64 a3.val)/\(U64 b0.val)/\(U64 b1.val)/\(U64 b2.val)/\(U64 b3.val)/\(U64 m0.val)/\(U64 m1.val)/\(U64 m2.val)/\(U64 m3.val))/\(∀ r0:Int,r0=(modF ((val4 a0.val a1.val a2.val a3.val)+(val4 b0.val b1.val b2.val b3.val)) (val4 m0.val m1.val m2.val m3.val))->k (.agg [.int .u64 (.sym (limb r0 0)),.int .u64 (.sym (limb r0 1)),.int .u64 (.sym (limb r0 2)),.int .u64 (.sym (limb r0 3))]))
 | _,_=>False
def VCR2Add (a0:Int) (a1:Int) (a2:Int) (a3:Int) (b0:Int) (b1:Int) (b2:Int) (b3:Int) (m0:Int) (m1:Int) (m2:Int) (m3:Int):Prop :=
 (U64 a0/\U64 a1/\U64 a2/\U64 a3/\U64 b0/\U64 b1/\U64 b2/\U64 b3)/\∀ v1,v1=val4 a0 a1 a2 a3+val4 b0 b1 b2 b3->∀ v2,v2=(val4 a0 a1 a2 a3+val4 b0 b1 b2 b3)/(115792089237316195423570985008687907853269984665640564039457584007913129639936:Int)->(U64 (limb v1 0)/\U64 (limb v1 1)/\U64 (limb v1 2)/\U64 (limb v1 3)/\U64 v2/\U64 0/\U64 0/\U64 0/\U64 m0/\U64 m1/\U64 m2/\U64 m3)/\∀ v3,v3=rF (val4 (limb v1 0) (limb v1 1) (limb v1 2) (limb v1 3)) (val4 v2 0 0 0) (val4 m0 m1 m2 m3)->(IntKind.u64=IntKind.u64/\limb v3 0=limb (modF (val4 a0 a1 a2 a3+val4 b0 b1 b2 b3) (val4 m0 m1 m2 m3)) 0)/\(IntKind.u64=IntKind.u64/\limb v3 1=limb (modF (val4 a0 a1 a2 a3+val4 b0 b1 b2 b3) (val4 m0 m1 m2 m3)) 1)/\(IntKind.u64=IntKind.u64/\limb v3 2=limb (modF (val4 a0 a1 a2 a3+val4 b0 b1 b2 b3) (val4 m0 m1 m2 m3)) 2)/\(IntKind.u64=IntKind.u64/\limb v3 3=limb (modF (val4 a0 a1 a2 a3+val4 b0 b1 b2 b3) (val4 m0 m1 m2 m3)) 3)/\True
theorem tieR2Add (w0:World) (a0:Int) (a1:Int) (a2:Int) (a3:Int) (b0:Int) (b1:Int) (b2:Int) (b3:Int) (m0:Int) (m1:Int) (m2:Int) (m3:Int):VCR2Add a0 a1 a2 a3 b0 b1 b2 b3 m0 m1 m2 m3=((recN (GC Tryz.prog ref3Spec w0) 40).call 62 [.agg [.int .u64 (.sym a0),.int .u64 (.sym a1),.int .u64 (.sym a2),.int .u64 (.sym a3)],.agg [.int .u64 (.sym b0),.int .u64 (.sym b1),.int .u64 (.sym b2),.int .u64 (.sym b3)],.agg [.int .u64 (.sym m0),.int .u64 (.sym m1),.int .u64 (.sym m2),.int .u64 (.sym m3)]] [] (fun r__ _=>eqV r__ (.agg [.int .u64 (.sym (limb (modF ((val4 a0 a1 a2 a3)+(val4 b0 b1 b2 b3)) (val4 m0 m1 m2 m3)) 0)),.int .u64 (.sym (limb (modF ((val4 a0 a1 a2 a3)+(val4 b0 b1 b2 b3)) (val4 m0 m1 m2 m3)) 1)),.int .u64 (.sym (limb (modF ((val4 a0 a1 a2 a3)+(val4 b0 b1 b2 b3)) (val4 m0 m1 m2 m3)) 2)),.int .u64 (.sym (limb (modF ((val4 a0 a1 a2 a3)+(val4 b0 b1 b2 b3)) (val4 m0 m1 m2 m3)) 3))]))):=by kernel_rfl
theorem pureR2Add (a0 a1 a2 a3 b0 b1 b2 b3 m0 m1 m2 m3:Int) (h:U64 a0/\U64 a1/\U64 a2/\U64 a3/\U64 b0/\U64 b1/\U64 b2/\U64 b3/\U64 m0/\U64 m1/\U64 m2/\U64 m3):VCR2Add a0 a1 a2 a3 b0 b1 b2 b3 m0 m1 m2 m3:=by
 obtain ⟨ha0,ha1,ha2,ha3,hb0,hb1,hb2,hb3,hm0,hm1,hm2,hm3⟩:=h
 have ba:=val4_lt ha0 ha1 ha2 ha3
 have bb:=val4_lt hb0 hb1 hb2 hb3
 have L:∀ x j,U64 (limb x j):=limb_in
 refine ⟨⟨ha0,ha1,ha2,ha3,hb0,hb1,hb2,hb3⟩,fun v1 h1 v2 h2=>⟨⟨L ..,L ..,L ..,L ..,by unfold U64; omega,U64_0,U64_0,U64_0,hm0,hm1,hm2,hm3⟩,fun v3 h3=>limb_eq ?_⟩⟩
 rw [h3,rF_modF]
 rw [val4_limb,show val4 v2 0 0 0=v2 by simp [val4]]
 omega
theorem r2Add_ok:SpecOk Tryz.prog 62 r2AddSpec:=by
 intro args k h
 unfold r2AddSpec at h
 split at h
 ·rename_i a0 a1 a2 a3 b0 b1 b2 b3 m0 m1 m2 m3
  obtain ⟨hr,h⟩:=h
  exact ⟨_,h _ rfl,PureOk.of_tie (GC Tryz.prog ref3Spec) (fun w__=>gok w__ namesOk_ mixed_ ref3_ok) (fun _=>rfl) (fun _=>rfl) (args':=[.agg [.int .u64 (.sym a0.val),.int .u64 (.sym a1.val),.int .u64 (.sym a2.val),.int .u64 (.sym a3.val)],.agg [.int .u64 (.sym b0.val),.int .u64 (.sym b1.val),.int .u64 (.sym b2.val),.int .u64 (.sym b3.val)],.agg [.int .u64 (.sym m0.val),.int .u64 (.sym m1.val),.int .u64 (.sym m2.val),.int .u64 (.sym m3.val)]]) ⟨⟨⟨rfl,rfl⟩,⟨rfl,rfl⟩,⟨rfl,rfl⟩,⟨rfl,rfl⟩,trivial⟩,⟨⟨rfl,rfl⟩,⟨rfl,rfl⟩,⟨rfl,rfl⟩,⟨rfl,rfl⟩,trivial⟩,⟨⟨rfl,rfl⟩,⟨rfl,rfl⟩,⟨rfl,rfl⟩,⟨rfl,rfl⟩,trivial⟩,trivial⟩ 40 (fun w__=>VCR2Add a0.val a1.val a2.val a3.val b0.val b1.val b2.val b3.val m0.val m1.val m2.val m3.val) (fun w__=>tieR2Add w__ a0.val a1.val a2.val a3.val b0.val b1.val b2.val b3.val m0.val m1.val m2.val m3.val) (fun w__=>pureR2Add a0.val a1.val a2.val a3.val b0.val b1.val b2.val b3.val m0.val m1.val m2.val m3.val hr)⟩
 ·exact h.elim

def r2SubSpec:CSpec
 | [.agg [.int .u64 a0,.int .u64 a1,.int .u64 a2,.int .u64 a3],.agg [.int .u64 b0,.int .u64 b1,.int .u64 b2,.int .u64 b3],.agg [.int .u64 m0,.int .u64 m1,.int .u64 m2,.int .u64 m3]],k=>((U64 a0.val)/\(U64 a1.val)/\(U64 a2.val)/\(U64 a3.val)/\(U64 b0.val)/\(U64 b1.val)/\(U64 b2.val)/\(U64 b3.val)/\(U64 m0.val)/\(U64 m1.val)/\(U64 m2.val)/\(U64 m3.val))/\(∀ r0:Int,r0=(modF ((val4 a0.val a1.val a2.val a3.val)-(val4 b0.val b1.val b2.val b3.val)) (val4 m0.val m1.val m2.val m3.val))->k (.agg [.int .u64 (.sym (limb r0 0)),.int .u64 (.sym (limb r0 1)),.int .u64 (.sym (limb r0 2)),.int .u64 (.sym (limb r0 3))]))
 | _,_=>False
def VCR2Sub (a0:Int) (a1:Int) (a2:Int) (a3:Int) (b0:Int) (b1:Int) (b2:Int) (b3:Int) (m0:Int) (m1:Int) (m2:Int) (m3:Int):Prop :=
 (U64 a0/\U64 a1/\U64 a2/\U64 a3/\U64 0/\U64 0/\U64 0/\U64 0/\U64 m0/\U64 m1/\U64 m2/\U64 m3)/\∀ v1,v1=rF (val4 a0 a1 a2 a3) (0:Int) (val4 m0 m1 m2 m3)->(U64 b0/\U64 b1/\U64 b2/\U64 b3/\U64 0/\U64 0/\U64 0/\U64 0/\U64 m0/\U64 m1/\U64 m2/\U64 m3)/\∀ v2,v2=rF (val4 b0 b1 b2 b3) (0:Int) (val4 m0 m1 m2 m3)->(U64 (limb v1 0)/\U64 (limb v1 1)/\U64 (limb v1 2)/\U64 (limb v1 3)/\U64 (limb v2 0)/\U64 (limb v2 1)/\U64 (limb v2 2)/\U64 (limb v2 3))/\∀ v3,v3=val4 (limb v1 0) (limb v1 1) (limb v1 2) (limb v1 3)-val4 (limb v2 0) (limb v2 1) (limb v2 2) (limb v2 3)->∀ (v4:Int),(v4=if val4 (limb v1 0) (limb v1 1) (limb v1 2) (limb v1 3)<val4 (limb v2 0) (limb v2 1) (limb v2 2) (limb v2 3) then (1:Int) else (0:Int))->∀ v5,v5=(v4==(1:Int))->(v5=true->(U64 (limb v3 0)/\U64 (limb v3 1)/\U64 (limb v3 2)/\U64 (limb v3 3)/\U64 m0/\U64 m1/\U64 m2/\U64 m3)/\∀ v6,v6=val4 (limb v3 0) (limb v3 1) (limb v3 2) (limb v3 3)+val4 m0 m1 m2 m3->∀ v7,v7=(val4 (limb v3 0) (limb v3 1) (limb v3 2) (limb v3 3)+val4 m0 m1 m2 m3)/(115792089237316195423570985008687907853269984665640564039457584007913129639936:Int)->(IntKind.u64=IntKind.u64/\limb v6 0=limb (modF (val4 a0 a1 a2 a3-val4 b0 b1 b2 b3) (val4 m0 m1 m2 m3)) 0)/\(IntKind.u64=IntKind.u64/\limb v6 1=limb (modF (val4 a0 a1 a2 a3-val4 b0 b1 b2 b3) (val4 m0 m1 m2 m3)) 1)/\(IntKind.u64=IntKind.u64/\limb v6 2=limb (modF (val4 a0 a1 a2 a3-val4 b0 b1 b2 b3) (val4 m0 m1 m2 m3)) 2)/\(IntKind.u64=IntKind.u64/\limb v6 3=limb (modF (val4 a0 a1 a2 a3-val4 b0 b1 b2 b3) (val4 m0 m1 m2 m3)) 3)/\True)/\(v5=false->(IntKind.u64=IntKind.u64/\limb v3 0=limb (modF (val4 a0 a1 a2 a3-val4 b0 b1 b2 b3) (val4 m0 m1 m2 m3)) 0)/\(IntKind.u64=IntKind.u64/\limb v3 1=limb (modF (val4 a0 a1 a2 a3-val4 b0 b1 b2 b3) (val4 m0 m1 m2 m3)) 1)/\(IntKind.u64=IntKind.u64/\limb v3 2=limb (modF (val4 a0 a1 a2 a3-val4 b0 b1 b2 b3) (val4 m0 m1 m2 m3)) 2)/\(IntKind.u64=IntKind.u64/\limb v3 3=limb (modF (val4 a0 a1 a2 a3-val4 b0 b1 b2 b3) (val4 m0 m1 m2 m3)) 3)/\True)
theorem tieR2Sub (w0:World) (a0:Int) (a1:Int) (a2:Int) (a3:Int) (b0:Int) (b1:Int) (b2:Int) (b3:Int) (m0:Int) (m1:Int) (m2:Int) (m3:Int):VCR2Sub a0 a1 a2 a3 b0 b1 b2 b3 m0 m1 m2 m3=((recN (GC Tryz.prog ref3Spec w0) 40).call 65 [.agg [.int .u64 (.sym a0),.int .u64 (.sym a1),.int .u64 (.sym a2),.int .u64 (.sym a3)],.agg [.int .u64 (.sym b0),.int .u64 (.sym b1),.int .u64 (.sym b2),.int .u64 (.sym b3)],.agg [.int .u64 (.sym m0),.int .u64 (.sym m1),.int .u64 (.sym m2),.int .u64 (.sym m3)]] [] (fun r__ _=>eqV r__ (.agg [.int .u64 (.sym (limb (modF ((val4 a0 a1 a2 a3)-(val4 b0 b1 b2 b3)) (val4 m0 m1 m2 m3)) 0)),.int .u64 (.sym (limb (modF ((val4 a0 a1 a2 a3)-(val4 b0 b1 b2 b3)) (val4 m0 m1 m2 m3)) 1)),.int .u64 (.sym (limb (modF ((val4 a0 a1 a2 a3)-(val4 b0 b1 b2 b3)) (val4 m0 m1 m2 m3)) 2)),.int .u64 (.sym (limb (modF ((val4 a0 a1 a2 a3)-(val4 b0 b1 b2 b3)) (val4 m0 m1 m2 m3)) 3))]))):=by kernel_rfl
theorem pureR2Sub (a0 a1 a2 a3 b0 b1 b2 b3 m0 m1 m2 m3:Int) (h:U64 a0/\U64 a1/\U64 a2/\U64 a3/\U64 b0/\U64 b1/\U64 b2/\U64 b3/\U64 m0/\U64 m1/\U64 m2/\U64 m3):VCR2Sub a0 a1 a2 a3 b0 b1 b2 b3 m0 m1 m2 m3:=by
 obtain ⟨ha0,ha1,ha2,ha3,hb0,hb1,hb2,hb3,hm0,hm1,hm2,hm3⟩:=h
 have bm:=val4_lt hm0 hm1 hm2 hm3
 refine ⟨⟨ha0,ha1,ha2,ha3,U64_0,U64_0,U64_0,U64_0,hm0,hm1,hm2,hm3⟩,fun v1 h1=>⟨⟨hb0,hb1,hb2,hb3,U64_0,U64_0,U64_0,U64_0,hm0,hm1,hm2,hm3⟩,fun v2 h2=>⟨⟨limb_in ..,limb_in ..,limb_in ..,limb_in ..,limb_in ..,limb_in ..,limb_in ..,limb_in ..⟩,fun v3 h3 v4 h4=>?_⟩⟩⟩
 rw [rF_mod] at h1 h2
 have r1:=modF_in (x:=val4 a0 a1 a2 a3) bm.1
 have r2:=modF_in (x:=val4 b0 b1 b2 b3) bm.1
 rw [modF_sub bm.1]
 rw [← h1,← h2] at *
 rw [val4_limb' (x:=v1) (by omega) (by omega),val4_limb' (x:=v2) (by omega) (by omega)] at h3 h4
 refine brE (fun e5=>⟨⟨limb_in ..,limb_in ..,limb_in ..,limb_in ..,hm0,hm1,hm2,hm3⟩,fun v6 h6 v7 h7=>limb_cong ?_⟩) fun e5=>limb_cong ?_
 ·rw [val4_limb] at h6
  have hlt:v1<v2:=by
   rw [h4] at e5
   split at e5<;>omega
  rw [if_pos hlt]
  omega
 ·have hlt:¬ v1<v2:=by
   rw [h4] at e5
   split at e5<;>omega
  rw [if_neg hlt,h3]
theorem r2Sub_ok:SpecOk Tryz.prog 65 r2SubSpec:=by
 intro args k h
 unfold r2SubSpec at h
 split at h
 ·rename_i a0 a1 a2 a3 b0 b1 b2 b3 m0 m1 m2 m3
  obtain ⟨hr,h⟩:=h
  exact ⟨_,h _ rfl,PureOk.of_tie (GC Tryz.prog ref3Spec) (fun w__=>gok w__ namesOk_ mixed_ ref3_ok) (fun _=>rfl) (fun _=>rfl) (args':=[.agg [.int .u64 (.sym a0.val),.int .u64 (.sym a1.val),.int .u64 (.sym a2.val),.int .u64 (.sym a3.val)],.agg [.int .u64 (.sym b0.val),.int .u64 (.sym b1.val),.int .u64 (.sym b2.val),.int .u64 (.sym b3.val)],.agg [.int .u64 (.sym m0.val),.int .u64 (.sym m1.val),.int .u64 (.sym m2.val),.int .u64 (.sym m3.val)]]) ⟨⟨⟨rfl,rfl⟩,⟨rfl,rfl⟩,⟨rfl,rfl⟩,⟨rfl,rfl⟩,trivial⟩,⟨⟨rfl,rfl⟩,⟨rfl,rfl⟩,⟨rfl,rfl⟩,⟨rfl,rfl⟩,trivial⟩,⟨⟨rfl,rfl⟩,⟨rfl,rfl⟩,⟨rfl,rfl⟩,⟨rfl,rfl⟩,trivial⟩,trivial⟩ 40 (fun w__=>VCR2Sub a0.val a1.val a2.val a3.val b0.val b1.val b2.val b3.val m0.val m1.val m2.val m3.val) (fun w__=>tieR2Sub w__ a0.val a1.val a2.val a3.val b0.val b1.val b2.val b3.val m0.val m1.val m2.val m3.val) (fun w__=>pureR2Sub a0.val a1.val a2.val a3.val b0.val b1.val b2.val b3.val m0.val m1.val m2.val m3.val hr)⟩
 ·exact h.elim

def r2MulSpec:CSpec
 | [.agg [.int .u64 a0,.int .u64 a1,.int .u64 a2,.int .u64 a3],.agg [.int .u64 b0,.int .u64 b1,.int .u64 b2,.int .u64 b3],.agg [.int .u64 m0,.int .u64 m1,.int .u64 m2,.int .u64 m3]],k=>((U64 a0.val)/\(U64 a1.val)/\(U64 a2.val)/\(U64 a3.val)/\(U64 b0.val)/\(U64 b1.val)/\(U64 b2.val)/\(U64 b3.val)/\(U64 m0.val)/\(U64 m1.val)/\(U64 m2.val)/\(U64 m3.val))/\(∀ r0:Int,r0=(modF ((val4 a0.val a1.val a2.val a3.val)*(val4 b0.val b1.val b2.val b3.val)) (val4 m0.val m1.val m2.val m3.val))->k (.agg [.int .u64 (.sym (limb r0 0)),.int .u64 (.sym (limb r0 1)),.int .u64 (.sym (limb r0 2)),.int .u64 (.sym (limb r0 3))]))
 | _,_=>False
def VCR2Mul (a0:Int) (a1:Int) (a2:Int) (a3:Int) (b0:Int) (b1:Int) (b2:Int) (b3:Int) (m0:Int) (m1:Int) (m2:Int) (m3:Int):Prop :=
 (U64 a0/\U64 a1/\U64 a2/\U64 a3/\U64 b0/\U64 b1/\U64 b2/\U64 b3)/\∀ v1,v1=val4 a0 a1 a2 a3*val4 b0 b1 b2 b3->∀ v2,v2=val4 a0 a1 a2 a3*val4 b0 b1 b2 b3/(115792089237316195423570985008687907853269984665640564039457584007913129639936:Int)->(U64 (limb v1 0)/\U64 (limb v1 1)/\U64 (limb v1 2)/\U64 (limb v1 3)/\U64 (limb v2 0)/\U64 (limb v2 1)/\U64 (limb v2 2)/\U64 (limb v2 3)/\U64 m0/\U64 m1/\U64 m2/\U64 m3)/\∀ v3,v3=rF (val4 (limb v1 0) (limb v1 1) (limb v1 2) (limb v1 3)) (val4 (limb v2 0) (limb v2 1) (limb v2 2) (limb v2 3)) (val4 m0 m1 m2 m3)->(IntKind.u64=IntKind.u64/\limb v3 0=limb (modF (val4 a0 a1 a2 a3*val4 b0 b1 b2 b3) (val4 m0 m1 m2 m3)) 0)/\(IntKind.u64=IntKind.u64/\limb v3 1=limb (modF (val4 a0 a1 a2 a3*val4 b0 b1 b2 b3) (val4 m0 m1 m2 m3)) 1)/\(IntKind.u64=IntKind.u64/\limb v3 2=limb (modF (val4 a0 a1 a2 a3*val4 b0 b1 b2 b3) (val4 m0 m1 m2 m3)) 2)/\(IntKind.u64=IntKind.u64/\limb v3 3=limb (modF (val4 a0 a1 a2 a3*val4 b0 b1 b2 b3) (val4 m0 m1 m2 m3)) 3)/\True
theorem tieR2Mul (w0:World) (a0:Int) (a1:Int) (a2:Int) (a3:Int) (b0:Int) (b1:Int) (b2:Int) (b3:Int) (m0:Int) (m1:Int) (m2:Int) (m3:Int):VCR2Mul a0 a1 a2 a3 b0 b1 b2 b3 m0 m1 m2 m3=((recN (GC Tryz.prog ref3Spec w0) 40).call 67 [.agg [.int .u64 (.sym a0),.int .u64 (.sym a1),.int .u64 (.sym a2),.int .u64 (.sym a3)],.agg [.int .u64 (.sym b0),.int .u64 (.sym b1),.int .u64 (.sym b2),.int .u64 (.sym b3)],.agg [.int .u64 (.sym m0),.int .u64 (.sym m1),.int .u64 (.sym m2),.int .u64 (.sym m3)]] [] (fun r__ _=>eqV r__ (.agg [.int .u64 (.sym (limb (modF ((val4 a0 a1 a2 a3)*(val4 b0 b1 b2 b3)) (val4 m0 m1 m2 m3)) 0)),.int .u64 (.sym (limb (modF ((val4 a0 a1 a2 a3)*(val4 b0 b1 b2 b3)) (val4 m0 m1 m2 m3)) 1)),.int .u64 (.sym (limb (modF ((val4 a0 a1 a2 a3)*(val4 b0 b1 b2 b3)) (val4 m0 m1 m2 m3)) 2)),.int .u64 (.sym (limb (modF ((val4 a0 a1 a2 a3)*(val4 b0 b1 b2 b3)) (val4 m0 m1 m2 m3)) 3))]))):=by kernel_rfl
theorem pureR2Mul (a0 a1 a2 a3 b0 b1 b2 b3 m0 m1 m2 m3:Int) (h:U64 a0/\U64 a1/\U64 a2/\U64 a3/\U64 b0/\U64 b1/\U64 b2/\U64 b3/\U64 m0/\U64 m1/\U64 m2/\U64 m3):VCR2Mul a0 a1 a2 a3 b0 b1 b2 b3 m0 m1 m2 m3:=by
 obtain ⟨ha0,ha1,ha2,ha3,hb0,hb1,hb2,hb3,hm0,hm1,hm2,hm3⟩:=h
 have ba:=val4_lt ha0 ha1 ha2 ha3
 have bb:=val4_lt hb0 hb1 hb2 hb3
 have L:∀ x j,U64 (limb x j):=limb_in
 refine ⟨⟨ha0,ha1,ha2,ha3,hb0,hb1,hb2,hb3⟩,fun v1 h1 v2 h2=>⟨⟨L ..,L ..,L ..,L ..,L ..,L ..,L ..,L ..,hm0,hm1,hm2,hm3⟩,fun v3 h3=>limb_eq ?_⟩⟩
 have p0:0<=v1:=by rw [h1]; exact Int.mul_nonneg ba.1 bb.1
 have p1:=(mul_in ba.1 (show val4 a0 a1 a2 a3<=115792089237316195423570985008687907853269984665640564039457584007913129639936-1 by omega) bb.1 (show val4 b0 b1 b2 b3<=115792089237316195423570985008687907853269984665640564039457584007913129639936-1 by omega)).2
 rw [← h1] at h2 p1
 rw [h3,← h1]
 refine rF_modF ?_
 rw [val4_limb,val4_limb]
 omega
theorem r2Mul_ok:SpecOk Tryz.prog 67 r2MulSpec:=by
 intro args k h
 unfold r2MulSpec at h
 split at h
 ·rename_i a0 a1 a2 a3 b0 b1 b2 b3 m0 m1 m2 m3
  obtain ⟨hr,h⟩:=h
  exact ⟨_,h _ rfl,PureOk.of_tie (GC Tryz.prog ref3Spec) (fun w__=>gok w__ namesOk_ mixed_ ref3_ok) (fun _=>rfl) (fun _=>rfl) (args':=[.agg [.int .u64 (.sym a0.val),.int .u64 (.sym a1.val),.int .u64 (.sym a2.val),.int .u64 (.sym a3.val)],.agg [.int .u64 (.sym b0.val),.int .u64 (.sym b1.val),.int .u64 (.sym b2.val),.int .u64 (.sym b3.val)],.agg [.int .u64 (.sym m0.val),.int .u64 (.sym m1.val),.int .u64 (.sym m2.val),.int .u64 (.sym m3.val)]]) ⟨⟨⟨rfl,rfl⟩,⟨rfl,rfl⟩,⟨rfl,rfl⟩,⟨rfl,rfl⟩,trivial⟩,⟨⟨rfl,rfl⟩,⟨rfl,rfl⟩,⟨rfl,rfl⟩,⟨rfl,rfl⟩,trivial⟩,⟨⟨rfl,rfl⟩,⟨rfl,rfl⟩,⟨rfl,rfl⟩,⟨rfl,rfl⟩,trivial⟩,trivial⟩ 40 (fun w__=>VCR2Mul a0.val a1.val a2.val a3.val b0.val b1.val b2.val b3.val m0.val m1.val m2.val m3.val) (fun w__=>tieR2Mul w__ a0.val a1.val a2.val a3.val b0.val b1.val b2.val b3.val m0.val m1.val m2.val m3.val) (fun w__=>pureR2Mul a0.val a1.val a2.val a3.val b0.val b1.val b2.val b3.val m0.val m1.val m2.val m3.val hr)⟩
 ·exact h.elim

end Go.Proofs.YtaaobpalpcdlbaaGreat.Bits
