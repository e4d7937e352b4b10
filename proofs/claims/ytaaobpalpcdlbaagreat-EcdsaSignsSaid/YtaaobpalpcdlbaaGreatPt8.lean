import Derived.Test.YtaaobpalpcdlbaaGreatSxR
import Derived.Test.YtaaobpalpcdlbaaGreatProg
import Derived.Test.YtaaobpalpcdlbaaGreatIdx1
import Derived.Test.YtaaobpalpcdlbaaGreatNum11
import Derived.KernelRfl
namespace Go.Proofs.YtaaobpalpcdlbaaGreat.Bits
open Go Go.Sx Go.RowKit
set_option linter.unusedVariables false
set_option maxRecDepth 100000
def pt8Spec:List (FuncId×CSpec):=[(129,idxSpec)]
theorem pt8_ok:SpecsOk Tryz.prog pt8Spec:=⟨idx_ok,trivial⟩
def pd0:ByteArray:=bytesL [54,98,49,55,100,49,102,50,101,49,50,99,52,50,52,55,102,56,98,99,101,54,101,53,54,51,97,52,52,48,102,50,55,55,48,51,55,100,56,49,50,100,101,98,51,51,97,48,102,52,97,49,51,57,52,53,100,56,57,56,99,50,57,54]
def pd1:ByteArray:=bytesL [52,102,101,51,52,50,101,50,102,101,49,97,55,102,57,98,56,101,101,55,101,98,52,97,55,99,48,102,57,101,49,54,50,98,99,101,51,51,53,55,54,98,51,49,53,101,99,101,99,98,98,54,52,48,54,56,51,55,98,102,53,49,102,53]
def pd2:ByteArray:=bytesL [53,97,99,54,51,53,100,56,97,97,51,97,57,51,101,55,98,51,101,98,98,100,53,53,55,54,57,56,56,54,98,99,54,53,49,100,48,54,98,48,99,99,53,51,98,48,102,54,51,98,99,101,51,99,51,101,50,55,100,50,54,48,52,98]
def parF (s:ByteArray):Int:=if s=pd0 then 48439561293906451759052585252797914202762949526041747995844080717082404635286 else if s=pd1 then 36134250956749795798585127919587881956611106672985015071877198253568414405109 else 41058363725152142129326129780047268409114441015993725554835256314039467401291
def parseSpec:CSpec
 | [.str s],k=>(s.val=pd0\/s.val=pd1\/s.val=pd2)/\(∀ v:Int,v=parF s.val->k (.tup [.agg [.int .u64 (.sym (limb v 0)),.int .u64 (.sym (limb v 1)),.int .u64 (.sym (limb v 2)),.int .u64 (.sym (limb v 3))],.int .i64 (.lit 0)]))
 | _,_=>False
def VCParse0:Prop :=
 ((IntKind.u64=IntKind.u64/\(17627433388654248598:Int)=(17627433388654248598:Int))/\(IntKind.u64=IntKind.u64/\(8575836109218198432:Int)=(8575836109218198432:Int))/\(IntKind.u64=IntKind.u64/\(17923454489921339634:Int)=(17923454489921339634:Int))/\(IntKind.u64=IntKind.u64/\(7716867327612699207:Int)=(7716867327612699207:Int))/\True)/\(IntKind.i64=IntKind.i64/\(0:Int)=(0:Int))/\True
theorem tieParse0 (w0:World)  : VCParse0  = ((recN (GC Tryz.prog pt8Spec w0) 200).call 68 [.str (.lit (bytesL [54,98,49,55,100,49,102,50,101,49,50,99,52,50,52,55,102,56,98,99,101,54,101,53,54,51,97,52,52,48,102,50,55,55,48,51,55,100,56,49,50,100,101,98,51,51,97,48,102,52,97,49,51,57,52,53,100,56,57,56,99,50,57,54]))] [] (fun r__ _=>eqV r__ (.tup [.agg [.int .u64 (.sym (limb 48439561293906451759052585252797914202762949526041747995844080717082404635286 0)),.int .u64 (.sym (limb 48439561293906451759052585252797914202762949526041747995844080717082404635286 1)),.int .u64 (.sym (limb 48439561293906451759052585252797914202762949526041747995844080717082404635286 2)),.int .u64 (.sym (limb 48439561293906451759052585252797914202762949526041747995844080717082404635286 3))],.int .i64 (.lit 0)]))):=by kernel_rfl
theorem pureParse0:VCParse0:=by unfold VCParse0; decide +kernel
theorem parF0:parF pd0=48439561293906451759052585252797914202762949526041747995844080717082404635286:=by decide +kernel
def VCParse1:Prop :=
 ((IntKind.u64=IntKind.u64/\(14678990851816772085:Int)=(14678990851816772085:Int))/\(IntKind.u64=IntKind.u64/\(3156516839386865358:Int)=(3156516839386865358:Int))/\(IntKind.u64=IntKind.u64/\(10297457778147434006:Int)=(10297457778147434006:Int))/\(IntKind.u64=IntKind.u64/\(5756518291402817435:Int)=(5756518291402817435:Int))/\True)/\(IntKind.i64=IntKind.i64/\(0:Int)=(0:Int))/\True
theorem tieParse1 (w0:World)  : VCParse1  = ((recN (GC Tryz.prog pt8Spec w0) 200).call 68 [.str (.lit (bytesL [52,102,101,51,52,50,101,50,102,101,49,97,55,102,57,98,56,101,101,55,101,98,52,97,55,99,48,102,57,101,49,54,50,98,99,101,51,51,53,55,54,98,51,49,53,101,99,101,99,98,98,54,52,48,54,56,51,55,98,102,53,49,102,53]))] [] (fun r__ _=>eqV r__ (.tup [.agg [.int .u64 (.sym (limb 36134250956749795798585127919587881956611106672985015071877198253568414405109 0)),.int .u64 (.sym (limb 36134250956749795798585127919587881956611106672985015071877198253568414405109 1)),.int .u64 (.sym (limb 36134250956749795798585127919587881956611106672985015071877198253568414405109 2)),.int .u64 (.sym (limb 36134250956749795798585127919587881956611106672985015071877198253568414405109 3))],.int .i64 (.lit 0)]))):=by kernel_rfl
theorem pureParse1:VCParse1:=by unfold VCParse1; decide +kernel
theorem parF1:parF pd1=36134250956749795798585127919587881956611106672985015071877198253568414405109:=by decide +kernel
def VCParse2:Prop :=
 ((IntKind.u64=IntKind.u64/\(4309448131093880907:Int)=(4309448131093880907:Int))/\(IntKind.u64=IntKind.u64/\(7285987128567378166:Int)=(7285987128567378166:Int))/\(IntKind.u64=IntKind.u64/\(12964664127075681980:Int)=(12964664127075681980:Int))/\(IntKind.u64=IntKind.u64/\(6540974713487397863:Int)=(6540974713487397863:Int))/\True)/\(IntKind.i64=IntKind.i64/\(0:Int)=(0:Int))/\True
theorem tieParse2 (w0:World)  : VCParse2  = ((recN (GC Tryz.prog pt8Spec w0) 200).call 68 [.str (.lit (bytesL [53,97,99,54,51,53,100,56,97,97,51,97,57,51,101,55,98,51,101,98,98,100,53,53,55,54,57,56,56,54,98,99,54,53,49,100,48,54,98,48,99,99,53,51,98,48,102,54,51,98,99,101,51,99,51,101,50,55,100,50,54,48,52,98]))] [] (fun r__ _=>eqV r__ (.tup [.agg [.int .u64 (.sym (limb 41058363725152142129326129780047268409114441015993725554835256314039467401291 0)),.int .u64 (.sym (limb 41058363725152142129326129780047268409114441015993725554835256314039467401291 1)),.int .u64 (.sym (limb 41058363725152142129326129780047268409114441015993725554835256314039467401291 2)),.int .u64 (.sym (limb 41058363725152142129326129780047268409114441015993725554835256314039467401291 3))],.int .i64 (.lit 0)]))):=by kernel_rfl
theorem pureParse2:VCParse2:=by unfold VCParse2; decide +kernel
theorem parF2:parF pd2=41058363725152142129326129780047268409114441015993725554835256314039467401291:=by decide +kernel
theorem parse_ok:SpecOk Tryz.prog 68 parseSpec:=by
 intro args k h
 unfold parseSpec at h
 split at h
 ·rename_i s
  obtain ⟨hs,h⟩:=h
  rcases hs with hs | hs | hs
  ·exact ⟨_,h _ ((congrArg parF hs).trans parF0).symm,PureOk.of_tie (GC Tryz.prog pt8Spec) (fun w__=>gok w__ namesOk_ mixed_ pt8_ok) (fun _=>rfl) (fun _=>rfl) (args':=[.str (.lit (bytesL [54,98,49,55,100,49,102,50,101,49,50,99,52,50,52,55,102,56,98,99,101,54,101,53,54,51,97,52,52,48,102,50,55,55,48,51,55,100,56,49,50,100,101,98,51,51,97,48,102,52,97,49,51,57,52,53,100,56,57,56,99,50,57,54]))]) ⟨hs,trivial⟩ 200 (fun w__=>VCParse0) (fun w__=>tieParse0 w__) (fun w__=>pureParse0)⟩
  ·exact ⟨_,h _ ((congrArg parF hs).trans parF1).symm,PureOk.of_tie (GC Tryz.prog pt8Spec) (fun w__=>gok w__ namesOk_ mixed_ pt8_ok) (fun _=>rfl) (fun _=>rfl) (args':=[.str (.lit (bytesL [52,102,101,51,52,50,101,50,102,101,49,97,55,102,57,98,56,101,101,55,101,98,52,97,55,99,48,102,57,101,49,54,50,98,99,101,51,51,53,55,54,98,51,49,53,101,99,101,99,98,98,54,52,48,54,56,51,55,98,102,53,49,102,53]))]) ⟨hs,trivial⟩ 200 (fun w__=>VCParse1) (fun w__=>tieParse1 w__) (fun w__=>pureParse1)⟩
  ·exact ⟨_,h _ ((congrArg parF hs).trans parF2).symm,PureOk.of_tie (GC Tryz.prog pt8Spec) (fun w__=>gok w__ namesOk_ mixed_ pt8_ok) (fun _=>rfl) (fun _=>rfl) (args':=[.str (.lit (bytesL [53,97,99,54,51,53,100,56,97,97,51,97,57,51,101,55,98,51,101,98,98,100,53,53,55,54,57,56,56,54,98,99,54,53,49,100,48,54,98,48,99,99,53,51,98,48,102,54,51,98,99,101,51,99,51,101,50,55,100,50,54,48,52,98]))]) ⟨hs,trivial⟩ 200 (fun w__=>VCParse2) (fun w__=>tieParse2 w__) (fun w__=>pureParse2)⟩
 ·exact h.elim
end Go.Proofs.YtaaobpalpcdlbaaGreat.Bits
