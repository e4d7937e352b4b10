import Derived.Test.YtaaobpalpcdlbaaGreatSxR
import Derived.Test.YtaaobpalpcdlbaaGreatProg
import Derived.Test.YtaaobpalpcdlbaaGreatEd2
import Derived.KernelRfl
import Derived.Test.YtaaobpalpcdlbaaGreatRf5
import Derived.Test.YtaaobpalpcdlbaaGreatEd3
namespace Go.Proofs.YtaaobpalpcdlbaaGreat.Bits
open Go Go.Sx Go.RowKit Go.EC
set_option linter.unusedVariables false
set_option maxRecDepth 100000
def ed6Spec:List (FuncId×CSpec):=[(23,rCmpSpec),(65,r2SubSpec)]
theorem ed6_ok:SpecsOk Tryz.prog ed6Spec:=⟨rCmp_ok,r2Sub_ok,trivial⟩
def rLowSpec:CSpec
 | [.agg [.int .u64 gr0,.int .u64 gr1,.int .u64 gr2,.int .u64 gr3,.int .u64 gs0,.int .u64 gs1,.int .u64 gs2,.int .u64 gs3]],k=>((U64 gr0.val)/\(U64 gr1.val)/\(U64 gr2.val)/\(U64 gr3.val)/\(U64 gs0.val)/\(U64 gs1.val)/\(U64 gs2.val)/\(U64 gs3.val))/\(∀ r0:Int,r0=(gr0.val)->∀ r1:Int,r1=(gr1.val)->∀ r2:Int,r2=(gr2.val)->∀ r3:Int,r3=(gr3.val)->∀ r4:Int,r4=(loS (val4 gr0.val gr1.val gr2.val gr3.val) (val4 gs0.val gs1.val gs2.val gs3.val))->k (.agg [.int .u64 (.sym r0),.int .u64 (.sym r1),.int .u64 (.sym r2),.int .u64 (.sym r3),.int .u64 (.sym (limb r4 0)),.int .u64 (.sym (limb r4 1)),.int .u64 (.sym (limb r4 2)),.int .u64 (.sym (limb r4 3))]))
 | _,_=>False
def VCRLow (gr0:Int) (gr1:Int) (gr2:Int) (gr3:Int) (gs0:Int) (gs1:Int) (gs2:Int) (gs3:Int):Prop :=
 (U64 gr0/\U64 gr1/\U64 gr2/\U64 gr3/\U64 17562291160714782033/\U64 13611842547513532036/\U64 18446744073709551615/\U64 18446744069414584320)/\∀ v1,v1=cmpF (val4 gr0 gr1 gr2 gr3) (115792089210356248762697446949407573529996955224135760342422259061068512044369:Int)->∀ v2,v2=decide (v1>=(0:Int))->(v2=false->(U64 gs0/\U64 gs1/\U64 gs2/\U64 gs3/\U64 17562291160714782033/\U64 13611842547513532036/\U64 18446744073709551615/\U64 18446744069414584320)/\∀ v3,v3=cmpF (val4 gs0 gs1 gs2 gs3) (115792089210356248762697446949407573529996955224135760342422259061068512044369:Int)->∀ v4,v4=decide (v3>=(0:Int))->(v4=true->(IntKind.u64=IntKind.u64/\gr0=gr0)/\(IntKind.u64=IntKind.u64/\gr1=gr1)/\(IntKind.u64=IntKind.u64/\gr2=gr2)/\(IntKind.u64=IntKind.u64/\gr3=gr3)/\(IntKind.u64=IntKind.u64/\gs0=limb (loS (val4 gr0 gr1 gr2 gr3) (val4 gs0 gs1 gs2 gs3)) 0)/\(IntKind.u64=IntKind.u64/\gs1=limb (loS (val4 gr0 gr1 gr2 gr3) (val4 gs0 gs1 gs2 gs3)) 1)/\(IntKind.u64=IntKind.u64/\gs2=limb (loS (val4 gr0 gr1 gr2 gr3) (val4 gs0 gs1 gs2 gs3)) 2)/\(IntKind.u64=IntKind.u64/\gs3=limb (loS (val4 gr0 gr1 gr2 gr3) (val4 gs0 gs1 gs2 gs3)) 3)/\True)/\(v4=false->(U64 0/\U64 0/\U64 0/\U64 0/\U64 gs0/\U64 gs1/\U64 gs2/\U64 gs3/\U64 17562291160714782033/\U64 13611842547513532036/\U64 18446744073709551615/\U64 18446744069414584320)/\∀ v5,v5=modF ((0:Int)-val4 gs0 gs1 gs2 gs3) (115792089210356248762697446949407573529996955224135760342422259061068512044369:Int)->(U64 (limb v5 0)/\U64 (limb v5 1)/\U64 (limb v5 2)/\U64 (limb v5 3)/\U64 gs0/\U64 gs1/\U64 gs2/\U64 gs3)/\∀ v6,v6=cmpF (val4 (limb v5 0) (limb v5 1) (limb v5 2) (limb v5 3)) (val4 gs0 gs1 gs2 gs3)->∀ v7,v7=decide (v6<(0:Int))->(v7=true->(IntKind.u64=IntKind.u64/\gr0=gr0)/\(IntKind.u64=IntKind.u64/\gr1=gr1)/\(IntKind.u64=IntKind.u64/\gr2=gr2)/\(IntKind.u64=IntKind.u64/\gr3=gr3)/\(IntKind.u64=IntKind.u64/\limb v5 0=limb (loS (val4 gr0 gr1 gr2 gr3) (val4 gs0 gs1 gs2 gs3)) 0)/\(IntKind.u64=IntKind.u64/\limb v5 1=limb (loS (val4 gr0 gr1 gr2 gr3) (val4 gs0 gs1 gs2 gs3)) 1)/\(IntKind.u64=IntKind.u64/\limb v5 2=limb (loS (val4 gr0 gr1 gr2 gr3) (val4 gs0 gs1 gs2 gs3)) 2)/\(IntKind.u64=IntKind.u64/\limb v5 3=limb (loS (val4 gr0 gr1 gr2 gr3) (val4 gs0 gs1 gs2 gs3)) 3)/\True)/\(v7=false->(IntKind.u64=IntKind.u64/\gr0=gr0)/\(IntKind.u64=IntKind.u64/\gr1=gr1)/\(IntKind.u64=IntKind.u64/\gr2=gr2)/\(IntKind.u64=IntKind.u64/\gr3=gr3)/\(IntKind.u64=IntKind.u64/\gs0=limb (loS (val4 gr0 gr1 gr2 gr3) (val4 gs0 gs1 gs2 gs3)) 0)/\(IntKind.u64=IntKind.u64/\gs1=limb (loS (val4 gr0 gr1 gr2 gr3) (val4 gs0 gs1 gs2 gs3)) 1)/\(IntKind.u64=IntKind.u64/\gs2=limb (loS (val4 gr0 gr1 gr2 gr3) (val4 gs0 gs1 gs2 gs3)) 2)/\(IntKind.u64=IntKind.u64/\gs3=limb (loS (val4 gr0 gr1 gr2 gr3) (val4 gs0 gs1 gs2 gs3)) 3)/\True)))/\(v2=true->(IntKind.u64=IntKind.u64/\gr0=gr0)/\(IntKind.u64=IntKind.u64/\gr1=gr1)/\(IntKind.u64=IntKind.u64/\gr2=gr2)/\(IntKind.u64=IntKind.u64/\gr3=gr3)/\(IntKind.u64=IntKind.u64/\gs0=limb (loS (val4 gr0 gr1 gr2 gr3) (val4 gs0 gs1 gs2 gs3)) 0)/\(IntKind.u64=IntKind.u64/\gs1=limb (loS (val4 gr0 gr1 gr2 gr3) (val4 gs0 gs1 gs2 gs3)) 1)/\(IntKind.u64=IntKind.u64/\gs2=limb (loS (val4 gr0 gr1 gr2 gr3) (val4 gs0 gs1 gs2 gs3)) 2)/\(IntKind.u64=IntKind.u64/\gs3=limb (loS (val4 gr0 gr1 gr2 gr3) (val4 gs0 gs1 gs2 gs3)) 3)/\True)
theorem tieRLow (w0:World) (gr0:Int) (gr1:Int) (gr2:Int) (gr3:Int) (gs0:Int) (gs1:Int) (gs2:Int) (gs3:Int):VCRLow gr0 gr1 gr2 gr3 gs0 gs1 gs2 gs3=((recN (GC Tryz.prog ed6Spec w0) 40).call 22 [.agg [.int .u64 (.sym gr0),.int .u64 (.sym gr1),.int .u64 (.sym gr2),.int .u64 (.sym gr3),.int .u64 (.sym gs0),.int .u64 (.sym gs1),.int .u64 (.sym gs2),.int .u64 (.sym gs3)]] [] (fun r__ _=>eqV r__ (.agg [.int .u64 (.sym (gr0)),.int .u64 (.sym (gr1)),.int .u64 (.sym (gr2)),.int .u64 (.sym (gr3)),.int .u64 (.sym (limb (loS (val4 gr0 gr1 gr2 gr3) (val4 gs0 gs1 gs2 gs3)) 0)),.int .u64 (.sym (limb (loS (val4 gr0 gr1 gr2 gr3) (val4 gs0 gs1 gs2 gs3)) 1)),.int .u64 (.sym (limb (loS (val4 gr0 gr1 gr2 gr3) (val4 gs0 gs1 gs2 gs3)) 2)),.int .u64 (.sym (limb (loS (val4 gr0 gr1 gr2 gr3) (val4 gs0 gs1 gs2 gs3)) 3))]))):=by kernel_rfl
theorem pureRLow (gr0 gr1 gr2 gr3 gs0 gs1 gs2 gs3:Int) (h:U64 gr0/\U64 gr1/\U64 gr2/\U64 gr3/\U64 gs0/\U64 gs1/\U64 gs2/\U64 gs3):VCRLow gr0 gr1 gr2 gr3 gs0 gs1 gs2 gs3:=by
 obtain ⟨hgr0,hgr1,hgr2,hgr3,hgs0,hgs1,hgs2,hgs3⟩:=h
 have egr0:U64 gr0=True:=eq_true hgr0
 have egr1:U64 gr1=True:=eq_true hgr1
 have egr2:U64 gr2=True:=eq_true hgr2
 have egr3:U64 gr3=True:=eq_true hgr3
 have egs0:U64 gs0=True:=eq_true hgs0
 have egs1:U64 gs1=True:=eq_true hgs1
 have egs2:U64 gs2=True:=eq_true hgs2
 have egs3:U64 gs3=True:=eq_true hgs3
 obtain ⟨q0,q1,q2,q3⟩:=n2w
 have w0:U64 0=True:=eq_true U64_0
 have p0:U64 17562291160714782033=True:=eq_true q0
 have p1:U64 13611842547513532036=True:=eq_true q1
 have p2:U64 18446744073709551615=True:=eq_true q2
 have p3:U64 18446744069414584320=True:=eq_true q3
 obtain ⟨l0,l1,l2,l3⟩:=limbs4' hgs0 hgs1 hgs2 hgs3
 unfold VCRLow
 simp only [forall_eq,ulP,egr0,egr1,egr2,egr3,egs0,egs1,egs2,egs3,w0,p0,p1,p2,p3,modN2,lmN,cmp_lt,cmp_nneg,true_and]
 generalize val4 gr0 gr1 gr2 gr3=R at *
 generalize hS:val4 gs0 gs1 gs2 gs3=S at *
 by_cases c1:R<115792089210356248762697446949407573529996955224135760342422259061068512044369
 ·by_cases c2:S<115792089210356248762697446949407573529996955224135760342422259061068512044369
  ·by_cases c3:(0-S)%N2<S
   ·have e:loS R S=(0-S)%N2:=if_pos ⟨c1,c2,c3⟩
    simp only [e,decide_eq_true c1,decide_eq_true c2,decide_eq_true c3,Bool.false_eq_true,↓reduceIte,Bool.not_true,Bool.not_false,reduceCtorEq,false_implies,forall_const,true_and,and_true,and_self,l0,l1,l2,l3]
   ·have e:loS R S=S:=if_neg fun z=>c3 z.2.2
    simp only [e,decide_eq_true c1,decide_eq_true c2,decide_eq_false c3,Bool.false_eq_true,↓reduceIte,Bool.not_true,Bool.not_false,reduceCtorEq,false_implies,forall_const,true_and,and_true,and_self,l0,l1,l2,l3]
  ·have e:loS R S=S:=if_neg fun z=>c2 z.2.1
   simp only [e,decide_eq_true c1,decide_eq_false c2,Bool.false_eq_true,↓reduceIte,Bool.not_true,Bool.not_false,reduceCtorEq,false_implies,forall_const,true_and,and_true,and_self,l0,l1,l2,l3]
 ·have e:loS R S=S:=if_neg fun z=>c1 z.1
  simp only [e,decide_eq_false c1,Bool.false_eq_true,↓reduceIte,Bool.not_true,Bool.not_false,reduceCtorEq,false_implies,forall_const,true_and,and_true,and_self,l0,l1,l2,l3]
theorem rLow_ok:SpecOk Tryz.prog 22 rLowSpec:=by
 intro args k h
 unfold rLowSpec at h
 split at h
 ·rename_i gr0 gr1 gr2 gr3 gs0 gs1 gs2 gs3
  obtain ⟨hr,h⟩:=h
  exact ⟨_,h _ rfl _ rfl _ rfl _ rfl _ rfl,PureOk.of_tie (GC Tryz.prog ed6Spec) (fun w__=>gok w__ namesOk_ mixed_ ed6_ok) (fun _=>rfl) (fun _=>rfl) (args':=[.agg [.int .u64 (.sym gr0.val),.int .u64 (.sym gr1.val),.int .u64 (.sym gr2.val),.int .u64 (.sym gr3.val),.int .u64 (.sym gs0.val),.int .u64 (.sym gs1.val),.int .u64 (.sym gs2.val),.int .u64 (.sym gs3.val)]]) ⟨⟨⟨rfl,rfl⟩,⟨rfl,rfl⟩,⟨rfl,rfl⟩,⟨rfl,rfl⟩,⟨rfl,rfl⟩,⟨rfl,rfl⟩,⟨rfl,rfl⟩,⟨rfl,rfl⟩,trivial⟩,trivial⟩ 40 (fun w__=>VCRLow gr0.val gr1.val gr2.val gr3.val gs0.val gs1.val gs2.val gs3.val) (fun w__=>tieRLow w__ gr0.val gr1.val gr2.val gr3.val gs0.val gs1.val gs2.val gs3.val) (fun w__=>pureRLow gr0.val gr1.val gr2.val gr3.val gs0.val gs1.val gs2.val gs3.val hr)⟩
 ·exact h.elim

end Go.Proofs.YtaaobpalpcdlbaaGreat.Bits
namespace Go.Proofs.YtaaobpalpcdlbaaGreat.Bits
open Go Go.Sx Go.RowKit Go.EC
set_option linter.unusedVariables false
set_option linter.unusedSimpArgs false
set_option maxRecDepth 100000
def ed8Spec:List (FuncId×CSpec):=[(23,rCmpSpec),(62,r2AddSpec),(59,rRemSpec),(56,r2InvSpec),(67,r2MulSpec),(11,rMulSpec),(13,rBothSpec),(6,rOnSpec),(54,rFromBigSpec),(55,rSecretSpec)]
theorem ed8_ok:SpecsOk Tryz.prog ed8Spec:=⟨rCmp_ok,r2Add_ok,rRem_ok,r2Inv_ok,r2Mul_ok,rMul_ok,rBoth_ok,rOn_ok,rFromBig_ok,rSecret_ok,trivial⟩
theorem ug0:U64 17627433388654248598=True:=eq_true (by decide)
theorem ug1:U64 8575836109218198432=True:=eq_true (by decide)
theorem ug2:U64 17923454489921339634=True:=eq_true (by decide)
theorem ug3:U64 7716867327612699207=True:=eq_true (by decide)
theorem ug4:U64 14678990851816772085=True:=eq_true (by decide)
theorem ug5:U64 3156516839386865358=True:=eq_true (by decide)
theorem ug6:U64 10297457778147434006=True:=eq_true (by decide)
theorem ug7:U64 5756518291402817435=True:=eq_true (by decide)
theorem dzN (x:Int):(limb (x%N2) 0==0&&(limb (x%N2) 1==0&&(limb (x%N2) 2==0&&(limb (x%N2) 3==0&&true))))=!secF (x%N2):=by
 have h:=inN x
 have h2:x%N2<115792089210356248762697446949407573529996955224135760342422259061068512044369:=h.2
 rw [eq4l h.1 (by omega) U64_0 U64_0 U64_0 U64_0]
 show decide (x%N2=0)=_
 unfold secF
 rw [decide_eq_true h.2]; simp
theorem dkr (k:Int):(limb (krF k) 0==0&&(limb (krF k) 1==0&&(limb (krF k) 2==0&&(limb (krF k) 3==0&&true))))=!secF (krF k):=dzN _
theorem dks (d k z:Int):(limb (ksF d k z) 0==0&&(limb (ksF d k z) 1==0&&(limb (ksF d k z) 2==0&&(limb (ksF d k z) 3==0&&true))))=!secF (ksF d k z):=dzN _
theorem fold_nI (a b:Int):a*b%N2=nI a b:=rfl
theorem er0 {n:Int} (h:n=32):(erF n 32 != 0)=false:=by subst h; decide
theorem er1 {n:Int} (h:n≠32):(erF n 32 != 0)=true:=by
 unfold erF
 split
 ·rfl
 ·split
  ·rfl
  ·omega
theorem mulGr (k:Int):C256.mul k.toNat (pP 48439561293906451759052585252797914202762949526041747995844080717082404635286 36134250956749795798585127919587881956611106672985015071877198253568414405109 false)=QF k:=rfl
def rPublicSpec:CSpec
 | [.agg [.int .u64 d0,.int .u64 d1,.int .u64 d2,.int .u64 d3]],k=>((U64 d0.val)/\(U64 d1.val)/\(U64 d2.val)/\(U64 d3.val))/\(∀ r0:Int,r0=(pubX (val4 d0.val d1.val d2.val d3.val))->∀ r1:Int,r1=(pubY (val4 d0.val d1.val d2.val d3.val))->∀ r2:Bool,r2=(pubB (val4 d0.val d1.val d2.val d3.val))->∀ r3:Int,r3=(pubE (val4 d0.val d1.val d2.val d3.val))->k (.tup [.agg [.int .u64 (.sym (limb r0 0)),.int .u64 (.sym (limb r0 1)),.int .u64 (.sym (limb r0 2)),.int .u64 (.sym (limb r0 3)),.int .u64 (.sym (limb r1 0)),.int .u64 (.sym (limb r1 1)),.int .u64 (.sym (limb r1 2)),.int .u64 (.sym (limb r1 3)),.bool (.sym r2)],.int .i64 (.sym r3)]))
 | _,_=>False
def VCRPublic (d0:Int) (d1:Int) (d2:Int) (d3:Int):Prop :=
 (U64 d0/\U64 d1/\U64 d2/\U64 d3)/\∀ v1,v1=secF (val4 d0 d1 d2 d3)->∀ (v2:Bool),v2=!v1->(v2=true->((IntKind.u64=IntKind.u64/\0=limb (pubX (val4 d0 d1 d2 d3)) 0)/\(IntKind.u64=IntKind.u64/\0=limb (pubX (val4 d0 d1 d2 d3)) 1)/\(IntKind.u64=IntKind.u64/\0=limb (pubX (val4 d0 d1 d2 d3)) 2)/\(IntKind.u64=IntKind.u64/\0=limb (pubX (val4 d0 d1 d2 d3)) 3)/\(IntKind.u64=IntKind.u64/\0=limb (pubY (val4 d0 d1 d2 d3)) 0)/\(IntKind.u64=IntKind.u64/\0=limb (pubY (val4 d0 d1 d2 d3)) 1)/\(IntKind.u64=IntKind.u64/\0=limb (pubY (val4 d0 d1 d2 d3)) 2)/\(IntKind.u64=IntKind.u64/\0=limb (pubY (val4 d0 d1 d2 d3)) 3)/\false=pubB (val4 d0 d1 d2 d3)/\True)/\(IntKind.i64=IntKind.i64/\(13:Int)=pubE (val4 d0 d1 d2 d3))/\True)/\(v2=false->(U64 d0/\U64 d1/\U64 d2/\U64 d3/\U64 17627433388654248598/\U64 8575836109218198432/\U64 17923454489921339634/\U64 7716867327612699207/\U64 14678990851816772085/\U64 3156516839386865358/\U64 10297457778147434006/\U64 5756518291402817435/\true=true)/\∀ v3,v3=cX (C256.mul (val4 d0 d1 d2 d3).toNat (pP (48439561293906451759052585252797914202762949526041747995844080717082404635286:Int) (36134250956749795798585127919587881956611106672985015071877198253568414405109:Int) false))->∀ v4,v4=cY (C256.mul (val4 d0 d1 d2 d3).toNat (pP (48439561293906451759052585252797914202762949526041747995844080717082404635286:Int) (36134250956749795798585127919587881956611106672985015071877198253568414405109:Int) false))->∀ v5,v5=cB (C256.mul (val4 d0 d1 d2 d3).toNat (pP (48439561293906451759052585252797914202762949526041747995844080717082404635286:Int) (36134250956749795798585127919587881956611106672985015071877198253568414405109:Int) false))->((IntKind.u64=IntKind.u64/\limb v3 0=limb (pubX (val4 d0 d1 d2 d3)) 0)/\(IntKind.u64=IntKind.u64/\limb v3 1=limb (pubX (val4 d0 d1 d2 d3)) 1)/\(IntKind.u64=IntKind.u64/\limb v3 2=limb (pubX (val4 d0 d1 d2 d3)) 2)/\(IntKind.u64=IntKind.u64/\limb v3 3=limb (pubX (val4 d0 d1 d2 d3)) 3)/\(IntKind.u64=IntKind.u64/\limb v4 0=limb (pubY (val4 d0 d1 d2 d3)) 0)/\(IntKind.u64=IntKind.u64/\limb v4 1=limb (pubY (val4 d0 d1 d2 d3)) 1)/\(IntKind.u64=IntKind.u64/\limb v4 2=limb (pubY (val4 d0 d1 d2 d3)) 2)/\(IntKind.u64=IntKind.u64/\limb v4 3=limb (pubY (val4 d0 d1 d2 d3)) 3)/\v5=pubB (val4 d0 d1 d2 d3)/\True)/\(IntKind.i64=IntKind.i64/\(0:Int)=pubE (val4 d0 d1 d2 d3))/\True)
theorem tieRPublic (w0:World) (d0:Int) (d1:Int) (d2:Int) (d3:Int):VCRPublic d0 d1 d2 d3=((recN (GC Tryz.prog ed8Spec w0) 40).call 18 [.agg [.int .u64 (.sym d0),.int .u64 (.sym d1),.int .u64 (.sym d2),.int .u64 (.sym d3)]] [] (fun r__ _=>eqV r__ (.tup [.agg [.int .u64 (.sym (limb (pubX (val4 d0 d1 d2 d3)) 0)),.int .u64 (.sym (limb (pubX (val4 d0 d1 d2 d3)) 1)),.int .u64 (.sym (limb (pubX (val4 d0 d1 d2 d3)) 2)),.int .u64 (.sym (limb (pubX (val4 d0 d1 d2 d3)) 3)),.int .u64 (.sym (limb (pubY (val4 d0 d1 d2 d3)) 0)),.int .u64 (.sym (limb (pubY (val4 d0 d1 d2 d3)) 1)),.int .u64 (.sym (limb (pubY (val4 d0 d1 d2 d3)) 2)),.int .u64 (.sym (limb (pubY (val4 d0 d1 d2 d3)) 3)),.bool (.sym (pubB (val4 d0 d1 d2 d3)))],.int .i64 (.sym (pubE (val4 d0 d1 d2 d3)))]))):=by kernel_rfl
theorem pureRPublic (d0 d1 d2 d3:Int) (h:U64 d0/\U64 d1/\U64 d2/\U64 d3):VCRPublic d0 d1 d2 d3:=by
 obtain ⟨hd0,hd1,hd2,hd3⟩:=h
 have ed0:U64 d0=True:=eq_true hd0
 have ed1:U64 d1=True:=eq_true hd1
 have ed2:U64 d2=True:=eq_true hd2
 have ed3:U64 d3=True:=eq_true hd3
 have bd:=val4_lt hd0 hd1 hd2 hd3
 obtain ⟨m1,m2,m3⟩:=mulG bd
 obtain ⟨z0,z1,z2,z3⟩:=limbz4
 unfold VCRPublic
 simp only [forall_eq,ulP,ug0,ug1,ug2,ug3,ug4,ug5,ug6,ug7,mulGr,fold_nI,dkr,dks,ed0,ed1,ed2,ed3,lgx,lgy,so_false,m1,m2,m3,true_and]
 generalize hD:val4 d0 d1 d2 d3=D at *
 unfold pubX pubY pubB pubE
 cases hs:secF D with
 | true=>simp only [Bool.false_eq_true,↓reduceIte,Bool.not_true,Bool.not_false,Bool.or_true,Bool.true_or,Bool.or_false,Bool.false_or,reduceCtorEq,false_implies,forall_const,true_and,and_true,and_self,ne_eq,not_true_eq_false,not_false_eq_true]
 | false=>simp only [z0,z1,z2,z3,Bool.false_eq_true,↓reduceIte,Bool.not_true,Bool.not_false,Bool.or_true,Bool.true_or,Bool.or_false,Bool.false_or,reduceCtorEq,false_implies,forall_const,true_and,and_true,and_self,ne_eq,not_true_eq_false,not_false_eq_true]
theorem rPublic_ok:SpecOk Tryz.prog 18 rPublicSpec:=by
 intro args k h
 unfold rPublicSpec at h
 split at h
 ·rename_i d0 d1 d2 d3
  obtain ⟨hr,h⟩:=h
  exact ⟨_,h _ rfl _ rfl _ rfl _ rfl,PureOk.of_tie (GC Tryz.prog ed8Spec) (fun w__=>gok w__ namesOk_ mixed_ ed8_ok) (fun _=>rfl) (fun _=>rfl) (args':=[.agg [.int .u64 (.sym d0.val),.int .u64 (.sym d1.val),.int .u64 (.sym d2.val),.int .u64 (.sym d3.val)]]) ⟨⟨⟨rfl,rfl⟩,⟨rfl,rfl⟩,⟨rfl,rfl⟩,⟨rfl,rfl⟩,trivial⟩,trivial⟩ 40 (fun w__=>VCRPublic d0.val d1.val d2.val d3.val) (fun w__=>tieRPublic w__ d0.val d1.val d2.val d3.val) (fun w__=>pureRPublic d0.val d1.val d2.val d3.val hr)⟩
 ·exact h.elim

def rSignSpec:CSpec
 | [.agg [.int .u64 d0,.int .u64 d1,.int .u64 d2,.int .u64 d3],.agg [.int .u64 k0,.int .u64 k1,.int .u64 k2,.int .u64 k3],.str t],k=>((U64 d0.val)/\(U64 d1.val)/\(U64 d2.val)/\(U64 d3.val)/\(U64 k0.val)/\(U64 k1.val)/\(U64 k2.val)/\(U64 k3.val)/\(t.val.size<=140737488355328))/\(∀ r0:Int,r0=(sgR (val4 d0.val d1.val d2.val d3.val) (val4 k0.val k1.val k2.val k3.val) t.val)->∀ r1:Int,r1=(sgS (val4 d0.val d1.val d2.val d3.val) (val4 k0.val k1.val k2.val k3.val) t.val)->∀ r2:Int,r2=(sgE (val4 d0.val d1.val d2.val d3.val) (val4 k0.val k1.val k2.val k3.val) t.val)->k (.tup [.agg [.int .u64 (.sym (limb r0 0)),.int .u64 (.sym (limb r0 1)),.int .u64 (.sym (limb r0 2)),.int .u64 (.sym (limb r0 3)),.int .u64 (.sym (limb r1 0)),.int .u64 (.sym (limb r1 1)),.int .u64 (.sym (limb r1 2)),.int .u64 (.sym (limb r1 3))],.int .i64 (.sym r2)]))
 | _,_=>False
def VCRSign (d0:Int) (d1:Int) (d2:Int) (d3:Int) (k0:Int) (k1:Int) (k2:Int) (k3:Int) (t:ByteArray):Prop :=
 (U64 d0/\U64 d1/\U64 d2/\U64 d3)/\∀ v1,v1=secF (val4 d0 d1 d2 d3)->∀ (v2:Bool),v2=!v1->(v2=false->(U64 k0/\U64 k1/\U64 k2/\U64 k3)/\∀ v3,v3=secF (val4 k0 k1 k2 k3)->∀ (v4:Bool),v4=!v3->(v4=true->((IntKind.u64=IntKind.u64/\0=limb (sgR (val4 d0 d1 d2 d3) (val4 k0 k1 k2 k3) t) 0)/\(IntKind.u64=IntKind.u64/\0=limb (sgR (val4 d0 d1 d2 d3) (val4 k0 k1 k2 k3) t) 1)/\(IntKind.u64=IntKind.u64/\0=limb (sgR (val4 d0 d1 d2 d3) (val4 k0 k1 k2 k3) t) 2)/\(IntKind.u64=IntKind.u64/\0=limb (sgR (val4 d0 d1 d2 d3) (val4 k0 k1 k2 k3) t) 3)/\(IntKind.u64=IntKind.u64/\0=limb (sgS (val4 d0 d1 d2 d3) (val4 k0 k1 k2 k3) t) 0)/\(IntKind.u64=IntKind.u64/\0=limb (sgS (val4 d0 d1 d2 d3) (val4 k0 k1 k2 k3) t) 1)/\(IntKind.u64=IntKind.u64/\0=limb (sgS (val4 d0 d1 d2 d3) (val4 k0 k1 k2 k3) t) 2)/\(IntKind.u64=IntKind.u64/\0=limb (sgS (val4 d0 d1 d2 d3) (val4 k0 k1 k2 k3) t) 3)/\True)/\(IntKind.i64=IntKind.i64/\(13:Int)=sgE (val4 d0 d1 d2 d3) (val4 k0 k1 k2 k3) t)/\True)/\(v4=false->t.size<=140737488355328/\∀ v5,v5=beF t->∀ v6,v6=erF ↑t.size (32:Int)->∀ v7,v7=(v6 != (0:Int))->(v7=true->((IntKind.u64=IntKind.u64/\0=limb (sgR (val4 d0 d1 d2 d3) (val4 k0 k1 k2 k3) t) 0)/\(IntKind.u64=IntKind.u64/\0=limb (sgR (val4 d0 d1 d2 d3) (val4 k0 k1 k2 k3) t) 1)/\(IntKind.u64=IntKind.u64/\0=limb (sgR (val4 d0 d1 d2 d3) (val4 k0 k1 k2 k3) t) 2)/\(IntKind.u64=IntKind.u64/\0=limb (sgR (val4 d0 d1 d2 d3) (val4 k0 k1 k2 k3) t) 3)/\(IntKind.u64=IntKind.u64/\0=limb (sgS (val4 d0 d1 d2 d3) (val4 k0 k1 k2 k3) t) 0)/\(IntKind.u64=IntKind.u64/\0=limb (sgS (val4 d0 d1 d2 d3) (val4 k0 k1 k2 k3) t) 1)/\(IntKind.u64=IntKind.u64/\0=limb (sgS (val4 d0 d1 d2 d3) (val4 k0 k1 k2 k3) t) 2)/\(IntKind.u64=IntKind.u64/\0=limb (sgS (val4 d0 d1 d2 d3) (val4 k0 k1 k2 k3) t) 3)/\True)/\(IntKind.i64=IntKind.i64/\(10:Int)=sgE (val4 d0 d1 d2 d3) (val4 k0 k1 k2 k3) t)/\True)/\(v7=false->(U64 k0/\U64 k1/\U64 k2/\U64 k3/\U64 17627433388654248598/\U64 8575836109218198432/\U64 17923454489921339634/\U64 7716867327612699207/\U64 14678990851816772085/\U64 3156516839386865358/\U64 10297457778147434006/\U64 5756518291402817435/\true=true)/\∀ v8,v8=cX (C256.mul (val4 k0 k1 k2 k3).toNat (pP (48439561293906451759052585252797914202762949526041747995844080717082404635286:Int) (36134250956749795798585127919587881956611106672985015071877198253568414405109:Int) false))->∀ v9,v9=cY (C256.mul (val4 k0 k1 k2 k3).toNat (pP (48439561293906451759052585252797914202762949526041747995844080717082404635286:Int) (36134250956749795798585127919587881956611106672985015071877198253568414405109:Int) false))->∀ v10,v10=cB (C256.mul (val4 k0 k1 k2 k3).toNat (pP (48439561293906451759052585252797914202762949526041747995844080717082404635286:Int) (36134250956749795798585127919587881956611106672985015071877198253568414405109:Int) false))->(U64 (limb v8 0)/\U64 (limb v8 1)/\U64 (limb v8 2)/\U64 (limb v8 3)/\U64 0/\U64 0/\U64 0/\U64 0/\U64 17562291160714782033/\U64 13611842547513532036/\U64 18446744073709551615/\U64 18446744069414584320)/\∀ v11,v11=rF (val4 (limb v8 0) (limb v8 1) (limb v8 2) (limb v8 3)) (0:Int) (115792089210356248762697446949407573529996955224135760342422259061068512044369:Int)->(U64 k0/\U64 k1/\U64 k2/\U64 k3/\U64 17562291160714782033/\U64 13611842547513532036/\U64 18446744073709551615/\U64 18446744069414584320)/\∀ v12,v12=invF (val4 k0 k1 k2 k3) (115792089210356248762697446949407573529996955224135760342422259061068512044369:Int)->∀ v13,v13=okF (val4 k0 k1 k2 k3) (115792089210356248762697446949407573529996955224135760342422259061068512044369:Int)->(U64 (limb v11 0)/\U64 (limb v11 1)/\U64 (limb v11 2)/\U64 (limb v11 3)/\U64 d0/\U64 d1/\U64 d2/\U64 d3/\U64 17562291160714782033/\U64 13611842547513532036/\U64 18446744073709551615/\U64 18446744069414584320)/\∀ v14,v14=modF (val4 (limb v11 0) (limb v11 1) (limb v11 2) (limb v11 3)*val4 d0 d1 d2 d3) (115792089210356248762697446949407573529996955224135760342422259061068512044369:Int)->(U64 (limb v5 0)/\U64 (limb v5 1)/\U64 (limb v5 2)/\U64 (limb v5 3)/\U64 (limb v14 0)/\U64 (limb v14 1)/\U64 (limb v14 2)/\U64 (limb v14 3)/\U64 17562291160714782033/\U64 13611842547513532036/\U64 18446744073709551615/\U64 18446744069414584320)/\∀ v15,v15=modF (val4 (limb v5 0) (limb v5 1) (limb v5 2) (limb v5 3)+val4 (limb v14 0) (limb v14 1) (limb v14 2) (limb v14 3)) (115792089210356248762697446949407573529996955224135760342422259061068512044369:Int)->(U64 (limb v12 0)/\U64 (limb v12 1)/\U64 (limb v12 2)/\U64 (limb v12 3)/\U64 (limb v15 0)/\U64 (limb v15 1)/\U64 (limb v15 2)/\U64 (limb v15 3)/\U64 17562291160714782033/\U64 13611842547513532036/\U64 18446744073709551615/\U64 18446744069414584320)/\∀ v16,v16=modF (val4 (limb v12 0) (limb v12 1) (limb v12 2) (limb v12 3)*val4 (limb v15 0) (limb v15 1) (limb v15 2) (limb v15 3)) (115792089210356248762697446949407573529996955224135760342422259061068512044369:Int)->∀ v17,v17=(limb v11 0==(0:Int)&&(limb v11 1==(0:Int)&&(limb v11 2==(0:Int)&&(limb v11 3==(0:Int)&&true))))->(v17=false->∀ v18,v18=(limb v16 0==(0:Int)&&(limb v16 1==(0:Int)&&(limb v16 2==(0:Int)&&(limb v16 3==(0:Int)&&true))))->(v18=true->((IntKind.u64=IntKind.u64/\0=limb (sgR (val4 d0 d1 d2 d3) (val4 k0 k1 k2 k3) t) 0)/\(IntKind.u64=IntKind.u64/\0=limb (sgR (val4 d0 d1 d2 d3) (val4 k0 k1 k2 k3) t) 1)/\(IntKind.u64=IntKind.u64/\0=limb (sgR (val4 d0 d1 d2 d3) (val4 k0 k1 k2 k3) t) 2)/\(IntKind.u64=IntKind.u64/\0=limb (sgR (val4 d0 d1 d2 d3) (val4 k0 k1 k2 k3) t) 3)/\(IntKind.u64=IntKind.u64/\0=limb (sgS (val4 d0 d1 d2 d3) (val4 k0 k1 k2 k3) t) 0)/\(IntKind.u64=IntKind.u64/\0=limb (sgS (val4 d0 d1 d2 d3) (val4 k0 k1 k2 k3) t) 1)/\(IntKind.u64=IntKind.u64/\0=limb (sgS (val4 d0 d1 d2 d3) (val4 k0 k1 k2 k3) t) 2)/\(IntKind.u64=IntKind.u64/\0=limb (sgS (val4 d0 d1 d2 d3) (val4 k0 k1 k2 k3) t) 3)/\True)/\(IntKind.i64=IntKind.i64/\(13:Int)=sgE (val4 d0 d1 d2 d3) (val4 k0 k1 k2 k3) t)/\True)/\(v18=false->((IntKind.u64=IntKind.u64/\limb v11 0=limb (sgR (val4 d0 d1 d2 d3) (val4 k0 k1 k2 k3) t) 0)/\(IntKind.u64=IntKind.u64/\limb v11 1=limb (sgR (val4 d0 d1 d2 d3) (val4 k0 k1 k2 k3) t) 1)/\(IntKind.u64=IntKind.u64/\limb v11 2=limb (sgR (val4 d0 d1 d2 d3) (val4 k0 k1 k2 k3) t) 2)/\(IntKind.u64=IntKind.u64/\limb v11 3=limb (sgR (val4 d0 d1 d2 d3) (val4 k0 k1 k2 k3) t) 3)/\(IntKind.u64=IntKind.u64/\limb v16 0=limb (sgS (val4 d0 d1 d2 d3) (val4 k0 k1 k2 k3) t) 0)/\(IntKind.u64=IntKind.u64/\limb v16 1=limb (sgS (val4 d0 d1 d2 d3) (val4 k0 k1 k2 k3) t) 1)/\(IntKind.u64=IntKind.u64/\limb v16 2=limb (sgS (val4 d0 d1 d2 d3) (val4 k0 k1 k2 k3) t) 2)/\(IntKind.u64=IntKind.u64/\limb v16 3=limb (sgS (val4 d0 d1 d2 d3) (val4 k0 k1 k2 k3) t) 3)/\True)/\(IntKind.i64=IntKind.i64/\(0:Int)=sgE (val4 d0 d1 d2 d3) (val4 k0 k1 k2 k3) t)/\True))/\(v17=true->((IntKind.u64=IntKind.u64/\0=limb (sgR (val4 d0 d1 d2 d3) (val4 k0 k1 k2 k3) t) 0)/\(IntKind.u64=IntKind.u64/\0=limb (sgR (val4 d0 d1 d2 d3) (val4 k0 k1 k2 k3) t) 1)/\(IntKind.u64=IntKind.u64/\0=limb (sgR (val4 d0 d1 d2 d3) (val4 k0 k1 k2 k3) t) 2)/\(IntKind.u64=IntKind.u64/\0=limb (sgR (val4 d0 d1 d2 d3) (val4 k0 k1 k2 k3) t) 3)/\(IntKind.u64=IntKind.u64/\0=limb (sgS (val4 d0 d1 d2 d3) (val4 k0 k1 k2 k3) t) 0)/\(IntKind.u64=IntKind.u64/\0=limb (sgS (val4 d0 d1 d2 d3) (val4 k0 k1 k2 k3) t) 1)/\(IntKind.u64=IntKind.u64/\0=limb (sgS (val4 d0 d1 d2 d3) (val4 k0 k1 k2 k3) t) 2)/\(IntKind.u64=IntKind.u64/\0=limb (sgS (val4 d0 d1 d2 d3) (val4 k0 k1 k2 k3) t) 3)/\True)/\(IntKind.i64=IntKind.i64/\(13:Int)=sgE (val4 d0 d1 d2 d3) (val4 k0 k1 k2 k3) t)/\True))))/\(v2=true->((IntKind.u64=IntKind.u64/\0=limb (sgR (val4 d0 d1 d2 d3) (val4 k0 k1 k2 k3) t) 0)/\(IntKind.u64=IntKind.u64/\0=limb (sgR (val4 d0 d1 d2 d3) (val4 k0 k1 k2 k3) t) 1)/\(IntKind.u64=IntKind.u64/\0=limb (sgR (val4 d0 d1 d2 d3) (val4 k0 k1 k2 k3) t) 2)/\(IntKind.u64=IntKind.u64/\0=limb (sgR (val4 d0 d1 d2 d3) (val4 k0 k1 k2 k3) t) 3)/\(IntKind.u64=IntKind.u64/\0=limb (sgS (val4 d0 d1 d2 d3) (val4 k0 k1 k2 k3) t) 0)/\(IntKind.u64=IntKind.u64/\0=limb (sgS (val4 d0 d1 d2 d3) (val4 k0 k1 k2 k3) t) 1)/\(IntKind.u64=IntKind.u64/\0=limb (sgS (val4 d0 d1 d2 d3) (val4 k0 k1 k2 k3) t) 2)/\(IntKind.u64=IntKind.u64/\0=limb (sgS (val4 d0 d1 d2 d3) (val4 k0 k1 k2 k3) t) 3)/\True)/\(IntKind.i64=IntKind.i64/\(13:Int)=sgE (val4 d0 d1 d2 d3) (val4 k0 k1 k2 k3) t)/\True)
theorem tieRSign (w0:World) (d0:Int) (d1:Int) (d2:Int) (d3:Int) (k0:Int) (k1:Int) (k2:Int) (k3:Int) (t:ByteArray):VCRSign d0 d1 d2 d3 k0 k1 k2 k3 t=((recN (GC Tryz.prog ed8Spec w0) 40).call 20 [.agg [.int .u64 (.sym d0),.int .u64 (.sym d1),.int .u64 (.sym d2),.int .u64 (.sym d3)],.agg [.int .u64 (.sym k0),.int .u64 (.sym k1),.int .u64 (.sym k2),.int .u64 (.sym k3)],.str (.sym t)] [] (fun r__ _=>eqV r__ (.tup [.agg [.int .u64 (.sym (limb (sgR (val4 d0 d1 d2 d3) (val4 k0 k1 k2 k3) t) 0)),.int .u64 (.sym (limb (sgR (val4 d0 d1 d2 d3) (val4 k0 k1 k2 k3) t) 1)),.int .u64 (.sym (limb (sgR (val4 d0 d1 d2 d3) (val4 k0 k1 k2 k3) t) 2)),.int .u64 (.sym (limb (sgR (val4 d0 d1 d2 d3) (val4 k0 k1 k2 k3) t) 3)),.int .u64 (.sym (limb (sgS (val4 d0 d1 d2 d3) (val4 k0 k1 k2 k3) t) 0)),.int .u64 (.sym (limb (sgS (val4 d0 d1 d2 d3) (val4 k0 k1 k2 k3) t) 1)),.int .u64 (.sym (limb (sgS (val4 d0 d1 d2 d3) (val4 k0 k1 k2 k3) t) 2)),.int .u64 (.sym (limb (sgS (val4 d0 d1 d2 d3) (val4 k0 k1 k2 k3) t) 3))],.int .i64 (.sym (sgE (val4 d0 d1 d2 d3) (val4 k0 k1 k2 k3) t))]))):=by kernel_rfl
theorem pureRSign (d0 d1 d2 d3 k0 k1 k2 k3:Int) (t:ByteArray) (h:U64 d0/\U64 d1/\U64 d2/\U64 d3/\U64 k0/\U64 k1/\U64 k2/\U64 k3/\t.size<=140737488355328):VCRSign d0 d1 d2 d3 k0 k1 k2 k3 t:=by
 obtain ⟨hd0,hd1,hd2,hd3,hk0,hk1,hk2,hk3,ht⟩:=h
 have ed0:U64 d0=True:=eq_true hd0
 have ed1:U64 d1=True:=eq_true hd1
 have ed2:U64 d2=True:=eq_true hd2
 have ed3:U64 d3=True:=eq_true hd3
 have ek0:U64 k0=True:=eq_true hk0
 have ek1:U64 k1=True:=eq_true hk1
 have ek2:U64 k2=True:=eq_true hk2
 have ek3:U64 k3=True:=eq_true hk3
 have et:(t.size<=140737488355328)=True:=eq_true ht
 have bk:=val4_lt hk0 hk1 hk2 hk3
 obtain ⟨m1,m2,m3⟩:=mulG bk
 obtain ⟨z0,z1,z2,z3⟩:=limbz4
 obtain ⟨q0,q1,q2,q3⟩:=n2w
 have w0:U64 0=True:=eq_true U64_0
 have p0:U64 17562291160714782033=True:=eq_true q0
 have p1:U64 13611842547513532036=True:=eq_true q1
 have p2:U64 18446744073709551615=True:=eq_true q2
 have p3:U64 18446744069414584320=True:=eq_true q3
 unfold VCRSign
 simp only [forall_eq,ulP,ug0,ug1,ug2,ug3,ug4,ug5,ug6,ug7,mulGr,fold_nI,dkr,dks,ed0,ed1,ed2,ed3,ek0,ek1,ek2,ek3,et,w0,p0,p1,p2,p3,lgx,lgy,so_false,m1,m2,m3,lcX,rF0,fold_kr,modN2,lmN,lnI,lkr,lbe,linv,fold_ks,lks,true_and]
 generalize val4 d0 d1 d2 d3=D at *
 generalize val4 k0 k1 k2 k3=K at *
 unfold sgR sgS sgE
 by_cases z:(t.size:Int)=32
 ·have q:(erF 32 32 != 0)=false:=er0 rfl
  cases hd:secF D<;>cases hk:secF K<;>cases hr:secF (krF K)<;>cases hs:secF (ksF D K (beF t))<;>simp only [q,hd,hk,hr,hs,z,z0,z1,z2,z3,beq_self_eq_true,show ¬ ((13:Int)=0) by decide,Bool.false_eq_true,↓reduceIte,Bool.not_true,Bool.not_false,Bool.or_true,Bool.true_or,Bool.or_false,Bool.false_or,reduceCtorEq,false_implies,forall_const,true_and,and_true,and_self,ne_eq,not_true_eq_false,not_false_eq_true]
 ·have z':=er1 z
  cases hd:secF D<;>cases hk:secF K<;>simp only [hd,hk,z,z',z0,z1,z2,z3,show ¬ ((13:Int)=0) by decide,show ¬ ((10:Int)=0) by decide,Bool.false_eq_true,↓reduceIte,Bool.not_true,Bool.not_false,Bool.or_true,Bool.true_or,Bool.or_false,Bool.false_or,reduceCtorEq,false_implies,forall_const,true_and,and_true,and_self,ne_eq,not_true_eq_false,not_false_eq_true]
theorem rSign_ok:SpecOk Tryz.prog 20 rSignSpec:=by
 intro args k h
 unfold rSignSpec at h
 split at h
 ·rename_i d0 d1 d2 d3 k0 k1 k2 k3 t
  obtain ⟨hr,h⟩:=h
  exact ⟨_,h _ rfl _ rfl _ rfl,PureOk.of_tie (GC Tryz.prog ed8Spec) (fun w__=>gok w__ namesOk_ mixed_ ed8_ok) (fun _=>rfl) (fun _=>rfl) (args':=[.agg [.int .u64 (.sym d0.val),.int .u64 (.sym d1.val),.int .u64 (.sym d2.val),.int .u64 (.sym d3.val)],.agg [.int .u64 (.sym k0.val),.int .u64 (.sym k1.val),.int .u64 (.sym k2.val),.int .u64 (.sym k3.val)],.str (.sym t.val)]) ⟨⟨⟨rfl,rfl⟩,⟨rfl,rfl⟩,⟨rfl,rfl⟩,⟨rfl,rfl⟩,trivial⟩,⟨⟨rfl,rfl⟩,⟨rfl,rfl⟩,⟨rfl,rfl⟩,⟨rfl,rfl⟩,trivial⟩,rfl,trivial⟩ 40 (fun w__=>VCRSign d0.val d1.val d2.val d3.val k0.val k1.val k2.val k3.val t.val) (fun w__=>tieRSign w__ d0.val d1.val d2.val d3.val k0.val k1.val k2.val k3.val t.val) (fun w__=>pureRSign d0.val d1.val d2.val d3.val k0.val k1.val k2.val k3.val t.val hr)⟩
 ·exact h.elim

def rCheckSpec:CSpec
 | [.agg [.int .u64 ax0,.int .u64 ax1,.int .u64 ax2,.int .u64 ax3,.int .u64 ay0,.int .u64 ay1,.int .u64 ay2,.int .u64 ay3,.bool ai],.str t,.agg [.int .u64 gr0,.int .u64 gr1,.int .u64 gr2,.int .u64 gr3,.int .u64 gs0,.int .u64 gs1,.int .u64 gs2,.int .u64 gs3]],k=>((U64 ax0.val)/\(U64 ax1.val)/\(U64 ax2.val)/\(U64 ax3.val)/\(U64 ay0.val)/\(U64 ay1.val)/\(U64 ay2.val)/\(U64 ay3.val)/\(U64 gr0.val)/\(U64 gr1.val)/\(U64 gr2.val)/\(U64 gr3.val)/\(U64 gs0.val)/\(U64 gs1.val)/\(U64 gs2.val)/\(U64 gs3.val)/\(t.val.size<=140737488355328))/\(∀ r0:Int,r0=(chE (val4 ax0.val ax1.val ax2.val ax3.val) (val4 ay0.val ay1.val ay2.val ay3.val) ai.val t.val (val4 gr0.val gr1.val gr2.val gr3.val) (val4 gs0.val gs1.val gs2.val gs3.val))->k (.int .i64 (.sym r0)))
 | _,_=>False
def VCRCheck (ax0:Int) (ax1:Int) (ax2:Int) (ax3:Int) (ay0:Int) (ay1:Int) (ay2:Int) (ay3:Int) (ai:Bool) (t:ByteArray) (gr0:Int) (gr1:Int) (gr2:Int) (gr3:Int) (gs0:Int) (gs1:Int) (gs2:Int) (gs3:Int):Prop :=
 (ai=false->(U64 ax0/\U64 ax1/\U64 ax2/\U64 ax3/\U64 ay0/\U64 ay1/\U64 ay2/\U64 ay3)/\∀ v1,v1=onP (val4 ax0 ax1 ax2 ax3) (val4 ay0 ay1 ay2 ay3) ai->∀ (v2:Bool),v2=!v1->(v2=true->IntKind.i64=IntKind.i64/\(15:Int)=chE (val4 ax0 ax1 ax2 ax3) (val4 ay0 ay1 ay2 ay3) ai t (val4 gr0 gr1 gr2 gr3) (val4 gs0 gs1 gs2 gs3))/\(v2=false->t.size<=140737488355328/\∀ v3,v3=beF t->∀ v4,v4=erF ↑t.size (32:Int)->∀ v5,v5=(v4 != (0:Int))->(v5=true->IntKind.i64=IntKind.i64/\(10:Int)=chE (val4 ax0 ax1 ax2 ax3) (val4 ay0 ay1 ay2 ay3) ai t (val4 gr0 gr1 gr2 gr3) (val4 gs0 gs1 gs2 gs3))/\(v5=false->(U64 gr0/\U64 gr1/\U64 gr2/\U64 gr3)/\∀ v6,v6=secF (val4 gr0 gr1 gr2 gr3)->∀ (v7:Bool),v7=!v6->(v7=false->(U64 gs0/\U64 gs1/\U64 gs2/\U64 gs3)/\∀ v8,v8=secF (val4 gs0 gs1 gs2 gs3)->∀ (v9:Bool),v9=!v8->(v9=true->IntKind.i64=IntKind.i64/\(13:Int)=chE (val4 ax0 ax1 ax2 ax3) (val4 ay0 ay1 ay2 ay3) ai t (val4 gr0 gr1 gr2 gr3) (val4 gs0 gs1 gs2 gs3))/\(v9=false->(U64 gs0/\U64 gs1/\U64 gs2/\U64 gs3/\U64 17562291160714782033/\U64 13611842547513532036/\U64 18446744073709551615/\U64 18446744069414584320)/\∀ v10,v10=invF (val4 gs0 gs1 gs2 gs3) (115792089210356248762697446949407573529996955224135760342422259061068512044369:Int)->∀ v11,v11=okF (val4 gs0 gs1 gs2 gs3) (115792089210356248762697446949407573529996955224135760342422259061068512044369:Int)->(U64 (limb v3 0)/\U64 (limb v3 1)/\U64 (limb v3 2)/\U64 (limb v3 3)/\U64 (limb v10 0)/\U64 (limb v10 1)/\U64 (limb v10 2)/\U64 (limb v10 3)/\U64 17562291160714782033/\U64 13611842547513532036/\U64 18446744073709551615/\U64 18446744069414584320)/\∀ v12,v12=modF (val4 (limb v3 0) (limb v3 1) (limb v3 2) (limb v3 3)*val4 (limb v10 0) (limb v10 1) (limb v10 2) (limb v10 3)) (115792089210356248762697446949407573529996955224135760342422259061068512044369:Int)->(U64 gr0/\U64 gr1/\U64 gr2/\U64 gr3/\U64 (limb v10 0)/\U64 (limb v10 1)/\U64 (limb v10 2)/\U64 (limb v10 3)/\U64 17562291160714782033/\U64 13611842547513532036/\U64 18446744073709551615/\U64 18446744069414584320)/\∀ v13,v13=modF (val4 gr0 gr1 gr2 gr3*val4 (limb v10 0) (limb v10 1) (limb v10 2) (limb v10 3)) (115792089210356248762697446949407573529996955224135760342422259061068512044369:Int)->(U64 (limb v12 0)/\U64 (limb v12 1)/\U64 (limb v12 2)/\U64 (limb v12 3)/\U64 (limb v13 0)/\U64 (limb v13 1)/\U64 (limb v13 2)/\U64 (limb v13 3)/\U64 ax0/\U64 ax1/\U64 ax2/\U64 ax3/\U64 ay0/\U64 ay1/\U64 ay2/\U64 ay3/\onP (val4 ax0 ax1 ax2 ax3) (val4 ay0 ay1 ay2 ay3) ai=true)/\∀ v14,v14=cX (BF (val4 (limb v12 0) (limb v12 1) (limb v12 2) (limb v12 3)) (val4 (limb v13 0) (limb v13 1) (limb v13 2) (limb v13 3)) (pP (val4 ax0 ax1 ax2 ax3) (val4 ay0 ay1 ay2 ay3) ai))->∀ v15,v15=cY (BF (val4 (limb v12 0) (limb v12 1) (limb v12 2) (limb v12 3)) (val4 (limb v13 0) (limb v13 1) (limb v13 2) (limb v13 3)) (pP (val4 ax0 ax1 ax2 ax3) (val4 ay0 ay1 ay2 ay3) ai))->∀ v16,v16=cB (BF (val4 (limb v12 0) (limb v12 1) (limb v12 2) (limb v12 3)) (val4 (limb v13 0) (limb v13 1) (limb v13 2) (limb v13 3)) (pP (val4 ax0 ax1 ax2 ax3) (val4 ay0 ay1 ay2 ay3) ai))->(v16=false->(U64 (limb v14 0)/\U64 (limb v14 1)/\U64 (limb v14 2)/\U64 (limb v14 3)/\U64 0/\U64 0/\U64 0/\U64 0/\U64 17562291160714782033/\U64 13611842547513532036/\U64 18446744073709551615/\U64 18446744069414584320)/\∀ v17,v17=rF (val4 (limb v14 0) (limb v14 1) (limb v14 2) (limb v14 3)) (0:Int) (115792089210356248762697446949407573529996955224135760342422259061068512044369:Int)->∀ (v18:Bool),v18=!(limb v17 0==gr0&&(limb v17 1==gr1&&(limb v17 2==gr2&&(limb v17 3==gr3&&true))))->(v18=true->IntKind.i64=IntKind.i64/\(16:Int)=chE (val4 ax0 ax1 ax2 ax3) (val4 ay0 ay1 ay2 ay3) ai t (val4 gr0 gr1 gr2 gr3) (val4 gs0 gs1 gs2 gs3))/\(v18=false->IntKind.i64=IntKind.i64/\(0:Int)=chE (val4 ax0 ax1 ax2 ax3) (val4 ay0 ay1 ay2 ay3) ai t (val4 gr0 gr1 gr2 gr3) (val4 gs0 gs1 gs2 gs3)))/\(v16=true->IntKind.i64=IntKind.i64/\(16:Int)=chE (val4 ax0 ax1 ax2 ax3) (val4 ay0 ay1 ay2 ay3) ai t (val4 gr0 gr1 gr2 gr3) (val4 gs0 gs1 gs2 gs3))))/\(v7=true->IntKind.i64=IntKind.i64/\(13:Int)=chE (val4 ax0 ax1 ax2 ax3) (val4 ay0 ay1 ay2 ay3) ai t (val4 gr0 gr1 gr2 gr3) (val4 gs0 gs1 gs2 gs3)))))/\(ai=true->IntKind.i64=IntKind.i64/\(15:Int)=chE (val4 ax0 ax1 ax2 ax3) (val4 ay0 ay1 ay2 ay3) ai t (val4 gr0 gr1 gr2 gr3) (val4 gs0 gs1 gs2 gs3))
theorem tieRCheck (w0:World) (ax0:Int) (ax1:Int) (ax2:Int) (ax3:Int) (ay0:Int) (ay1:Int) (ay2:Int) (ay3:Int) (ai:Bool) (t:ByteArray) (gr0:Int) (gr1:Int) (gr2:Int) (gr3:Int) (gs0:Int) (gs1:Int) (gs2:Int) (gs3:Int):VCRCheck ax0 ax1 ax2 ax3 ay0 ay1 ay2 ay3 ai t gr0 gr1 gr2 gr3 gs0 gs1 gs2 gs3=((recN (GC Tryz.prog ed8Spec w0) 60).call 15 [.agg [.int .u64 (.sym ax0),.int .u64 (.sym ax1),.int .u64 (.sym ax2),.int .u64 (.sym ax3),.int .u64 (.sym ay0),.int .u64 (.sym ay1),.int .u64 (.sym ay2),.int .u64 (.sym ay3),.bool (.sym ai)],.str (.sym t),.agg [.int .u64 (.sym gr0),.int .u64 (.sym gr1),.int .u64 (.sym gr2),.int .u64 (.sym gr3),.int .u64 (.sym gs0),.int .u64 (.sym gs1),.int .u64 (.sym gs2),.int .u64 (.sym gs3)]] [] (fun r__ _=>eqV r__ (.int .i64 (.sym (chE (val4 ax0 ax1 ax2 ax3) (val4 ay0 ay1 ay2 ay3) ai t (val4 gr0 gr1 gr2 gr3) (val4 gs0 gs1 gs2 gs3)))))):=by kernel_rfl
theorem pureRCheck (ax0 ax1 ax2 ax3 ay0 ay1 ay2 ay3:Int) (ai:Bool) (t:ByteArray) (gr0 gr1 gr2 gr3 gs0 gs1 gs2 gs3:Int) (h:U64 ax0/\U64 ax1/\U64 ax2/\U64 ax3/\U64 ay0/\U64 ay1/\U64 ay2/\U64 ay3/\U64 gr0/\U64 gr1/\U64 gr2/\U64 gr3/\U64 gs0/\U64 gs1/\U64 gs2/\U64 gs3/\t.size<=140737488355328):VCRCheck ax0 ax1 ax2 ax3 ay0 ay1 ay2 ay3 ai t gr0 gr1 gr2 gr3 gs0 gs1 gs2 gs3:=by
 obtain ⟨hax0,hax1,hax2,hax3,hay0,hay1,hay2,hay3,hgr0,hgr1,hgr2,hgr3,hgs0,hgs1,hgs2,hgs3,ht⟩:=h
 have eax0:U64 ax0=True:=eq_true hax0
 have eax1:U64 ax1=True:=eq_true hax1
 have eax2:U64 ax2=True:=eq_true hax2
 have eax3:U64 ax3=True:=eq_true hax3
 have eay0:U64 ay0=True:=eq_true hay0
 have eay1:U64 ay1=True:=eq_true hay1
 have eay2:U64 ay2=True:=eq_true hay2
 have eay3:U64 ay3=True:=eq_true hay3
 have egr0:U64 gr0=True:=eq_true hgr0
 have egr1:U64 gr1=True:=eq_true hgr1
 have egr2:U64 gr2=True:=eq_true hgr2
 have egr3:U64 gr3=True:=eq_true hgr3
 have egs0:U64 gs0=True:=eq_true hgs0
 have egs1:U64 gs1=True:=eq_true hgs1
 have egs2:U64 gs2=True:=eq_true hgs2
 have egs3:U64 gs3=True:=eq_true hgs3
 have et:(t.size<=140737488355328)=True:=eq_true ht
 obtain ⟨q0,q1,q2,q3⟩:=n2w
 have w0:U64 0=True:=eq_true U64_0
 have p0:U64 17562291160714782033=True:=eq_true q0
 have p1:U64 13611842547513532036=True:=eq_true q1
 have p2:U64 18446744073709551615=True:=eq_true q2
 have p3:U64 18446744069414584320=True:=eq_true q3
 have qe:∀ x,(limb (x%N2) 0==gr0&&(limb (x%N2) 1==gr1&&(limb (x%N2) 2==gr2&&(limb (x%N2) 3==gr3&&true))))=decide (x%N2=val4 gr0 gr1 gr2 gr3):=fun x=>by
  rw [eq4 (limb_in _ _) (limb_in _ _) (limb_in _ _) (limb_in _ _) hgr0 hgr1 hgr2 hgr3,lmN]
 unfold VCRCheck
 simp only [forall_eq,ulP,ug0,ug1,ug2,ug3,ug4,ug5,ug6,ug7,mulGr,fold_nI,dkr,dks,eax0,eax1,eax2,eax3,eay0,eay1,eay2,eay3,egr0,egr1,egr2,egr3,egs0,egs1,egs2,egs3,et,w0,p0,p1,p2,p3,lcX,rF0,modN2,lnI,lbe,linv,qe,true_and]
 generalize val4 ax0 ax1 ax2 ax3=X at *
 generalize val4 ay0 ay1 ay2 ay3=Y at *
 generalize val4 gr0 gr1 gr2 gr3=R at *
 generalize val4 gs0 gs1 gs2 gs3=S at *
 unfold chE vkF
 by_cases z:(t.size:Int)=32
 ·have q:(erF 32 32 != 0)=false:=er0 rfl
  cases ai<;>cases ho:onP X Y _<;>cases hr:secF R<;>cases hs:secF S<;>simp [z,q]
  generalize BF (nI (beF t) (invF S 115792089210356248762697446949407573529996955224135760342422259061068512044369)) (nI R (invF S 115792089210356248762697446949407573529996955224135760342422259061068512044369)) (pP X Y false)=A
  cases hb:cB A<;>by_cases hx:cX A%N2=R<;>simp [hx]
 ·have q:=er1 z
  cases ai<;>cases ho:onP X Y _<;>simp [z,q]
theorem rCheck_ok:SpecOk Tryz.prog 15 rCheckSpec:=by
 intro args k h
 unfold rCheckSpec at h
 split at h
 ·rename_i ax0 ax1 ax2 ax3 ay0 ay1 ay2 ay3 ai t gr0 gr1 gr2 gr3 gs0 gs1 gs2 gs3
  obtain ⟨hr,h⟩:=h
  exact ⟨_,h _ rfl,PureOk.of_tie (GC Tryz.prog ed8Spec) (fun w__=>gok w__ namesOk_ mixed_ ed8_ok) (fun _=>rfl) (fun _=>rfl) (args':=[.agg [.int .u64 (.sym ax0.val),.int .u64 (.sym ax1.val),.int .u64 (.sym ax2.val),.int .u64 (.sym ax3.val),.int .u64 (.sym ay0.val),.int .u64 (.sym ay1.val),.int .u64 (.sym ay2.val),.int .u64 (.sym ay3.val),.bool (.sym ai.val)],.str (.sym t.val),.agg [.int .u64 (.sym gr0.val),.int .u64 (.sym gr1.val),.int .u64 (.sym gr2.val),.int .u64 (.sym gr3.val),.int .u64 (.sym gs0.val),.int .u64 (.sym gs1.val),.int .u64 (.sym gs2.val),.int .u64 (.sym gs3.val)]]) ⟨⟨⟨rfl,rfl⟩,⟨rfl,rfl⟩,⟨rfl,rfl⟩,⟨rfl,rfl⟩,⟨rfl,rfl⟩,⟨rfl,rfl⟩,⟨rfl,rfl⟩,⟨rfl,rfl⟩,rfl,trivial⟩,rfl,⟨⟨rfl,rfl⟩,⟨rfl,rfl⟩,⟨rfl,rfl⟩,⟨rfl,rfl⟩,⟨rfl,rfl⟩,⟨rfl,rfl⟩,⟨rfl,rfl⟩,⟨rfl,rfl⟩,trivial⟩,trivial⟩ 60 (fun w__=>VCRCheck ax0.val ax1.val ax2.val ax3.val ay0.val ay1.val ay2.val ay3.val ai.val t.val gr0.val gr1.val gr2.val gr3.val gs0.val gs1.val gs2.val gs3.val) (fun w__=>tieRCheck w__ ax0.val ax1.val ax2.val ax3.val ay0.val ay1.val ay2.val ay3.val ai.val t.val gr0.val gr1.val gr2.val gr3.val gs0.val gs1.val gs2.val gs3.val) (fun w__=>pureRCheck ax0.val ax1.val ax2.val ax3.val ay0.val ay1.val ay2.val ay3.val ai.val t.val gr0.val gr1.val gr2.val gr3.val gs0.val gs1.val gs2.val gs3.val hr)⟩
 ·exact h.elim

end Go.Proofs.YtaaobpalpcdlbaaGreat.Bits
namespace Go.Proofs.YtaaobpalpcdlbaaGreat.Bits
open Go Go.Sx Go.RowKit Go.EC
set_option linter.unusedVariables false
set_option linter.unusedSimpArgs false
set_option maxRecDepth 100000
def ed9Spec:List (FuncId×CSpec):=[(17,ePublicSpec),(19,eSignSpec),(14,eCheckSpec),(21,eLowSpec),(18,rPublicSpec),(20,rSignSpec),(15,rCheckSpec),(22,rLowSpec),(16,awake5Spec)]
theorem ed9_ok:SpecsOk Tryz.prog ed9Spec:=⟨ePublic_ok,eSign_ok,eCheck_ok,eLow_ok,rPublic_ok,rSign_ok,rCheck_ok,rLow_ok,awake5_ok,trivial⟩
def VCEcdsaChecks (ax0:Int) (ax1:Int) (ax2:Int) (ax3:Int) (ay0:Int) (ay1:Int) (ay2:Int) (ay3:Int) (ai:Bool) (t:ByteArray) (gr0:Int) (gr1:Int) (gr2:Int) (gr3:Int) (gs0:Int) (gs1:Int) (gs2:Int) (gs3:Int):Prop :=
 (U64 ax0/\U64 ax1/\U64 ax2/\U64 ax3/\U64 ay0/\U64 ay1/\U64 ay2/\U64 ay3/\U64 gr0/\U64 gr1/\U64 gr2/\U64 gr3/\U64 gs0/\U64 gs1/\U64 gs2/\U64 gs3/\t.size<=140737488355328)/\∀ v1,v1=chE (val4 ax0 ax1 ax2 ax3) (val4 ay0 ay1 ay2 ay3) ai t (val4 gr0 gr1 gr2 gr3) (val4 gs0 gs1 gs2 gs3)->(U64 ax0/\U64 ax1/\U64 ax2/\U64 ax3/\U64 ay0/\U64 ay1/\U64 ay2/\U64 ay3/\U64 gr0/\U64 gr1/\U64 gr2/\U64 gr3/\U64 gs0/\U64 gs1/\U64 gs2/\U64 gs3/\t.size<=140737488355328)/\∀ v2,v2=chE (val4 ax0 ax1 ax2 ax3) (val4 ay0 ay1 ay2 ay3) ai t (val4 gr0 gr1 gr2 gr3) (val4 gs0 gs1 gs2 gs3)->∀ v3,v3=(v1==v2)->(v3=true->True/\true=true)/\(v3=false->false=true)
theorem tieEcdsaChecks (w0:World) (ax0:Int) (ax1:Int) (ax2:Int) (ax3:Int) (ay0:Int) (ay1:Int) (ay2:Int) (ay3:Int) (ai:Bool) (t:ByteArray) (gr0:Int) (gr1:Int) (gr2:Int) (gr3:Int) (gs0:Int) (gs1:Int) (gs2:Int) (gs3:Int):VCEcdsaChecks ax0 ax1 ax2 ax3 ay0 ay1 ay2 ay3 ai t gr0 gr1 gr2 gr3 gs0 gs1 gs2 gs3=((recN (GC Tryz.prog ed9Spec w0) 60).call 4 [.agg [.int .u64 (.sym ax0),.int .u64 (.sym ax1),.int .u64 (.sym ax2),.int .u64 (.sym ax3),.int .u64 (.sym ay0),.int .u64 (.sym ay1),.int .u64 (.sym ay2),.int .u64 (.sym ay3),.bool (.sym ai)],.str (.sym t),.agg [.int .u64 (.sym gr0),.int .u64 (.sym gr1),.int .u64 (.sym gr2),.int .u64 (.sym gr3),.int .u64 (.sym gs0),.int .u64 (.sym gs1),.int .u64 (.sym gs2),.int .u64 (.sym gs3)]] [] (fun v _=>isTrue v)):=by kernel_rfl
theorem pureEcdsaChecks (ax0 ax1 ax2 ax3 ay0 ay1 ay2 ay3:Int) (ai:Bool) (t:ByteArray) (gr0 gr1 gr2 gr3 gs0 gs1 gs2 gs3:Int) (h:U64 ax0/\U64 ax1/\U64 ax2/\U64 ax3/\U64 ay0/\U64 ay1/\U64 ay2/\U64 ay3/\(t.size<=140737488351232)/\U64 gr0/\U64 gr1/\U64 gr2/\U64 gr3/\U64 gs0/\U64 gs1/\U64 gs2/\U64 gs3):VCEcdsaChecks ax0 ax1 ax2 ax3 ay0 ay1 ay2 ay3 ai t gr0 gr1 gr2 gr3 gs0 gs1 gs2 gs3:=by
 obtain ⟨hax0,hax1,hax2,hax3,hay0,hay1,hay2,hay3,ht,hgr0,hgr1,hgr2,hgr3,hgs0,hgs1,hgs2,hgs3⟩:=h
 have eax0:U64 ax0=True:=eq_true hax0
 have eax1:U64 ax1=True:=eq_true hax1
 have eax2:U64 ax2=True:=eq_true hax2
 have eax3:U64 ax3=True:=eq_true hax3
 have eay0:U64 ay0=True:=eq_true hay0
 have eay1:U64 ay1=True:=eq_true hay1
 have eay2:U64 ay2=True:=eq_true hay2
 have eay3:U64 ay3=True:=eq_true hay3
 have egr0:U64 gr0=True:=eq_true hgr0
 have egr1:U64 gr1=True:=eq_true hgr1
 have egr2:U64 gr2=True:=eq_true hgr2
 have egr3:U64 gr3=True:=eq_true hgr3
 have egs0:U64 gs0=True:=eq_true hgs0
 have egs1:U64 gs1=True:=eq_true hgs1
 have egs2:U64 gs2=True:=eq_true hgs2
 have egs3:U64 gs3=True:=eq_true hgs3
 have et:(t.size<=140737488355328)=True:=eq_true (by omega)
 unfold VCEcdsaChecks
 simp only [forall_eq,ulP,eax0,eax1,eax2,eax3,eay0,eay1,eay2,eay3,egr0,egr1,egr2,egr3,egs0,egs1,egs2,egs3,et,beq_self_eq_true,Bool.and_true,true_and]
 simp
theorem walkEcdsaChecks (ax0:Int) (ax1:Int) (ax2:Int) (ax3:Int) (ay0:Int) (ay1:Int) (ay2:Int) (ay3:Int) (ai:Bool) (t:ByteArray) (gr0:Int) (gr1:Int) (gr2:Int) (gr3:Int) (gs0:Int) (gs1:Int) (gs2:Int) (gs3:Int) (w0:World) (hax0:(Lit.int .u64 ax0).wf=true) (hax1:(Lit.int .u64 ax1).wf=true) (hax2:(Lit.int .u64 ax2).wf=true) (hax3:(Lit.int .u64 ax3).wf=true) (hay0:(Lit.int .u64 ay0).wf=true) (hay1:(Lit.int .u64 ay1).wf=true) (hay2:(Lit.int .u64 ay2).wf=true) (hay3:(Lit.int .u64 ay3).wf=true) (ht:t.size<=140737488351232) (hgr0:(Lit.int .u64 gr0).wf=true) (hgr1:(Lit.int .u64 gr1).wf=true) (hgr2:(Lit.int .u64 gr2).wf=true) (hgr3:(Lit.int .u64 gr3).wf=true) (hgs0:(Lit.int .u64 gs0).wf=true) (hgs1:(Lit.int .u64 gs1).wf=true) (hgs2:(Lit.int .u64 gs2).wf=true) (hgs3:(Lit.int .u64 gs3).wf=true):Calls Tryz.prog 4 #[.agg #[.int .u64 ax0,.int .u64 ax1,.int .u64 ax2,.int .u64 ax3,.int .u64 ay0,.int .u64 ay1,.int .u64 ay2,.int .u64 ay3,.bool ai],.string t,.agg #[.int .u64 gr0,.int .u64 gr1,.int .u64 gr2,.int .u64 gr3,.int .u64 gs0,.int .u64 gs1,.int .u64 gs2,.int .u64 gs3]] w0 fun e w'=>e = .returned (.bool true)/\Below w0.heap.size w0 w' :=
 law_tie (G:=GC Tryz.prog ed9Spec w0) (gok w0 namesOk_ mixed_ ed9_ok) (n:=60) (f:=4) (args:=[.agg [.int .u64 (.sym ax0),.int .u64 (.sym ax1),.int .u64 (.sym ax2),.int .u64 (.sym ax3),.int .u64 (.sym ay0),.int .u64 (.sym ay1),.int .u64 (.sym ay2),.int .u64 (.sym ay3),.bool (.sym ai)],.str (.sym t),.agg [.int .u64 (.sym gr0),.int .u64 (.sym gr1),.int .u64 (.sym gr2),.int .u64 (.sym gr3),.int .u64 (.sym gs0),.int .u64 (.sym gs1),.int .u64 (.sym gs2),.int .u64 (.sym gs3)]]) (by kernel_rfl) (VCEcdsaChecks ax0 ax1 ax2 ax3 ay0 ay1 ay2 ay3 ai t gr0 gr1 gr2 gr3 gs0 gs1 gs2 gs3) (tieEcdsaChecks w0 ax0 ax1 ax2 ax3 ay0 ay1 ay2 ay3 ai t gr0 gr1 gr2 gr3 gs0 gs1 gs2 gs3) (pureEcdsaChecks ax0 ax1 ax2 ax3 ay0 ay1 ay2 ay3 ai t gr0 gr1 gr2 gr3 gs0 gs1 gs2 gs3 ⟨wf_u64 hax0,wf_u64 hax1,wf_u64 hax2,wf_u64 hax3,wf_u64 hay0,wf_u64 hay1,wf_u64 hay2,wf_u64 hay3,ht,wf_u64 hgr0,wf_u64 hgr1,wf_u64 hgr2,wf_u64 hgr3,wf_u64 hgs0,wf_u64 hgs1,wf_u64 hgs2,wf_u64 hgs3⟩)

def VCEcdsaSigns (d0:Int) (d1:Int) (d2:Int) (d3:Int) (b0:Int) (b1:Int) (b2:Int) (b3:Int) (t:ByteArray) (gr0:Int) (gr1:Int) (gr2:Int) (gr3:Int) (gs0:Int) (gs1:Int) (gs2:Int) (gs3:Int):Prop :=
 (U64 d0/\U64 d1/\U64 d2/\U64 d3)/\∀ v1,v1=pubX (val4 d0 d1 d2 d3)->∀ v2,v2=pubY (val4 d0 d1 d2 d3)->∀ v3,v3=pubB (val4 d0 d1 d2 d3)->∀ v4,v4=pubE (val4 d0 d1 d2 d3)->(U64 d0/\U64 d1/\U64 d2/\U64 d3)/\∀ v5,v5=pubX (val4 d0 d1 d2 d3)->∀ v6,v6=pubY (val4 d0 d1 d2 d3)->∀ v7,v7=pubB (val4 d0 d1 d2 d3)->∀ v8,v8=pubE (val4 d0 d1 d2 d3)->(U64 d0/\U64 d1/\U64 d2/\U64 d3/\U64 b0/\U64 b1/\U64 b2/\U64 b3/\t.size<=140737488355328)/\∀ v9,v9=sgR (val4 d0 d1 d2 d3) (val4 b0 b1 b2 b3) t->∀ v10,v10=sgS (val4 d0 d1 d2 d3) (val4 b0 b1 b2 b3) t->∀ v11,v11=sgE (val4 d0 d1 d2 d3) (val4 b0 b1 b2 b3) t->(U64 d0/\U64 d1/\U64 d2/\U64 d3/\U64 b0/\U64 b1/\U64 b2/\U64 b3/\t.size<=140737488355328)/\∀ v12,v12=sgR (val4 d0 d1 d2 d3) (val4 b0 b1 b2 b3) t->∀ v13,v13=sgS (val4 d0 d1 d2 d3) (val4 b0 b1 b2 b3) t->∀ v14,v14=sgE (val4 d0 d1 d2 d3) (val4 b0 b1 b2 b3) t->∀ v15,v15=(limb v1 0==limb v5 0&&(limb v1 1==limb v5 1&&(limb v1 2==limb v5 2&&(limb v1 3==limb v5 3&&true)))&&(limb v2 0==limb v6 0&&(limb v2 1==limb v6 1&&(limb v2 2==limb v6 2&&(limb v2 3==limb v6 3&&true)))&&(v3==v7&&true)))->(v15=true->∀ v16,v16=(v4==v8)->(v16=true->∀ v17,v17=(limb v9 0==limb v12 0&&(limb v9 1==limb v12 1&&(limb v9 2==limb v12 2&&(limb v9 3==limb v12 3&&true)))&&(limb v10 0==limb v13 0&&(limb v10 1==limb v13 1&&(limb v10 2==limb v13 2&&(limb v10 3==limb v13 3&&true)))&&true))->(v17=true->∀ v18,v18=(v11==v14)->(v18=true->(U64 gr0/\U64 gr1/\U64 gr2/\U64 gr3/\U64 gs0/\U64 gs1/\U64 gs2/\U64 gs3)/\∀ v19,v19=gr0->∀ v20,v20=gr1->∀ v21,v21=gr2->∀ v22,v22=gr3->∀ v23,v23=loS (val4 gr0 gr1 gr2 gr3) (val4 gs0 gs1 gs2 gs3)->(U64 gr0/\U64 gr1/\U64 gr2/\U64 gr3/\U64 gs0/\U64 gs1/\U64 gs2/\U64 gs3)/\∀ v24,v24=gr0->∀ v25,v25=gr1->∀ v26,v26=gr2->∀ v27,v27=gr3->∀ v28,v28=loS (val4 gr0 gr1 gr2 gr3) (val4 gs0 gs1 gs2 gs3)->∀ v29,v29=(v19==v24&&(v20==v25&&(v21==v26&&(v22==v27&&true)))&&(limb v23 0==limb v28 0&&(limb v23 1==limb v28 1&&(limb v23 2==limb v28 2&&(limb v23 3==limb v28 3&&true)))&&true))->(v29=true->True/\true=true)/\(v29=false->false=true))/\(v18=false->false=true))/\(v17=false->false=true))/\(v16=false->false=true))/\(v15=false->false=true)
theorem tieEcdsaSigns (w0:World) (d0:Int) (d1:Int) (d2:Int) (d3:Int) (b0:Int) (b1:Int) (b2:Int) (b3:Int) (t:ByteArray) (gr0:Int) (gr1:Int) (gr2:Int) (gr3:Int) (gs0:Int) (gs1:Int) (gs2:Int) (gs3:Int):VCEcdsaSigns d0 d1 d2 d3 b0 b1 b2 b3 t gr0 gr1 gr2 gr3 gs0 gs1 gs2 gs3=((recN (GC Tryz.prog ed9Spec w0) 60).call 5 [.agg [.int .u64 (.sym d0),.int .u64 (.sym d1),.int .u64 (.sym d2),.int .u64 (.sym d3)],.agg [.int .u64 (.sym b0),.int .u64 (.sym b1),.int .u64 (.sym b2),.int .u64 (.sym b3)],.str (.sym t),.agg [.int .u64 (.sym gr0),.int .u64 (.sym gr1),.int .u64 (.sym gr2),.int .u64 (.sym gr3),.int .u64 (.sym gs0),.int .u64 (.sym gs1),.int .u64 (.sym gs2),.int .u64 (.sym gs3)]] [] (fun v _=>isTrue v)):=by kernel_rfl
theorem pureEcdsaSigns (d0 d1 d2 d3 b0 b1 b2 b3:Int) (t:ByteArray) (gr0 gr1 gr2 gr3 gs0 gs1 gs2 gs3:Int) (h:U64 d0/\U64 d1/\U64 d2/\U64 d3/\U64 b0/\U64 b1/\U64 b2/\U64 b3/\(t.size<=140737488351232)/\U64 gr0/\U64 gr1/\U64 gr2/\U64 gr3/\U64 gs0/\U64 gs1/\U64 gs2/\U64 gs3):VCEcdsaSigns d0 d1 d2 d3 b0 b1 b2 b3 t gr0 gr1 gr2 gr3 gs0 gs1 gs2 gs3:=by
 obtain ⟨hd0,hd1,hd2,hd3,hb0,hb1,hb2,hb3,ht,hgr0,hgr1,hgr2,hgr3,hgs0,hgs1,hgs2,hgs3⟩:=h
 have ed0:U64 d0=True:=eq_true hd0
 have ed1:U64 d1=True:=eq_true hd1
 have ed2:U64 d2=True:=eq_true hd2
 have ed3:U64 d3=True:=eq_true hd3
 have eb0:U64 b0=True:=eq_true hb0
 have eb1:U64 b1=True:=eq_true hb1
 have eb2:U64 b2=True:=eq_true hb2
 have eb3:U64 b3=True:=eq_true hb3
 have egr0:U64 gr0=True:=eq_true hgr0
 have egr1:U64 gr1=True:=eq_true hgr1
 have egr2:U64 gr2=True:=eq_true hgr2
 have egr3:U64 gr3=True:=eq_true hgr3
 have egs0:U64 gs0=True:=eq_true hgs0
 have egs1:U64 gs1=True:=eq_true hgs1
 have egs2:U64 gs2=True:=eq_true hgs2
 have egs3:U64 gs3=True:=eq_true hgs3
 have et:(t.size<=140737488355328)=True:=eq_true (by omega)
 unfold VCEcdsaSigns
 simp only [forall_eq,ulP,ed0,ed1,ed2,ed3,eb0,eb1,eb2,eb3,egr0,egr1,egr2,egr3,egs0,egs1,egs2,egs3,et,beq_self_eq_true,Bool.and_true,Bool.and_self,true_and]
 simp
theorem walkEcdsaSigns (d0:Int) (d1:Int) (d2:Int) (d3:Int) (b0:Int) (b1:Int) (b2:Int) (b3:Int) (t:ByteArray) (gr0:Int) (gr1:Int) (gr2:Int) (gr3:Int) (gs0:Int) (gs1:Int) (gs2:Int) (gs3:Int) (w0:World) (hd0:(Lit.int .u64 d0).wf=true) (hd1:(Lit.int .u64 d1).wf=true) (hd2:(Lit.int .u64 d2).wf=true) (hd3:(Lit.int .u64 d3).wf=true) (hb0:(Lit.int .u64 b0).wf=true) (hb1:(Lit.int .u64 b1).wf=true) (hb2:(Lit.int .u64 b2).wf=true) (hb3:(Lit.int .u64 b3).wf=true) (ht:t.size<=140737488351232) (hgr0:(Lit.int .u64 gr0).wf=true) (hgr1:(Lit.int .u64 gr1).wf=true) (hgr2:(Lit.int .u64 gr2).wf=true) (hgr3:(Lit.int .u64 gr3).wf=true) (hgs0:(Lit.int .u64 gs0).wf=true) (hgs1:(Lit.int .u64 gs1).wf=true) (hgs2:(Lit.int .u64 gs2).wf=true) (hgs3:(Lit.int .u64 gs3).wf=true):Calls Tryz.prog 5 #[.agg #[.int .u64 d0,.int .u64 d1,.int .u64 d2,.int .u64 d3],.agg #[.int .u64 b0,.int .u64 b1,.int .u64 b2,.int .u64 b3],.string t,.agg #[.int .u64 gr0,.int .u64 gr1,.int .u64 gr2,.int .u64 gr3,.int .u64 gs0,.int .u64 gs1,.int .u64 gs2,.int .u64 gs3]] w0 fun e w'=>e = .returned (.bool true)/\Below w0.heap.size w0 w' :=
 law_tie (G:=GC Tryz.prog ed9Spec w0) (gok w0 namesOk_ mixed_ ed9_ok) (n:=60) (f:=5) (args:=[.agg [.int .u64 (.sym d0),.int .u64 (.sym d1),.int .u64 (.sym d2),.int .u64 (.sym d3)],.agg [.int .u64 (.sym b0),.int .u64 (.sym b1),.int .u64 (.sym b2),.int .u64 (.sym b3)],.str (.sym t),.agg [.int .u64 (.sym gr0),.int .u64 (.sym gr1),.int .u64 (.sym gr2),.int .u64 (.sym gr3),.int .u64 (.sym gs0),.int .u64 (.sym gs1),.int .u64 (.sym gs2),.int .u64 (.sym gs3)]]) (by kernel_rfl) (VCEcdsaSigns d0 d1 d2 d3 b0 b1 b2 b3 t gr0 gr1 gr2 gr3 gs0 gs1 gs2 gs3) (tieEcdsaSigns w0 d0 d1 d2 d3 b0 b1 b2 b3 t gr0 gr1 gr2 gr3 gs0 gs1 gs2 gs3) (pureEcdsaSigns d0 d1 d2 d3 b0 b1 b2 b3 t gr0 gr1 gr2 gr3 gs0 gs1 gs2 gs3 ⟨wf_u64 hd0,wf_u64 hd1,wf_u64 hd2,wf_u64 hd3,wf_u64 hb0,wf_u64 hb1,wf_u64 hb2,wf_u64 hb3,ht,wf_u64 hgr0,wf_u64 hgr1,wf_u64 hgr2,wf_u64 hgr3,wf_u64 hgs0,wf_u64 hgs1,wf_u64 hgs2,wf_u64 hgs3⟩)

end Go.Proofs.YtaaobpalpcdlbaaGreat.Bits
