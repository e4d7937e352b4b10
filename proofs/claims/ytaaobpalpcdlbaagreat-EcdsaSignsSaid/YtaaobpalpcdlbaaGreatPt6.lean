import Derived.Test.YtaaobpalpcdlbaaGreatSxR
import Derived.Test.YtaaobpalpcdlbaaGreatProg
import Derived.Test.YtaaobpalpcdlbaaGreatPt5
import Derived.Test.YtaaobpalpcdlbaaGreatPow0
import Derived.KernelRfl
namespace Go.Proofs.YtaaobpalpcdlbaaGreat.Bits
open Go Go.Sx Go.RowKit Go.EC
set_option linter.unusedVariables false
set_option maxRecDepth 100000
def bsN (j k L:Int) (A B AB:Sol):Nat->Sol
 | 0=>(0,1,0)
 | n+1=>if bitF j (L-1-n)=1/\bitF k (L-1-n)=1 then plI (twI (bsN j k L A B AB n)) AB else if bitF j (L-1-n)=1 then plI (twI (bsN j k L A B AB n)) A else if bitF k (L-1-n)=1 then plI (twI (bsN j k L A B AB n)) B else twI (bsN j k L A B AB n)
def botF (j k:Int) (A B:Sol):Sol:=bsN j k (max (lenF j) (lenF k)) A B (plI A B) (max (lenF j) (lenF k)).toNat
def pt6aSpec:List (FuncId×CSpec):=[]
theorem pt6a_ok:SpecsOk Tryz.prog pt6aSpec:=trivial
def pInfSpec:CSpec
 | [],k=>(True)/\(∀ r0:Int,r0=(0)->∀ r1:Int,r1=(0)->∀ r2:Int,r2=(0)->∀ r3:Int,r3=(0)->∀ r4:Int,r4=(0)->∀ r5:Int,r5=(0)->∀ r6:Int,r6=(0)->∀ r7:Int,r7=(0)->k (.agg [.int .u64 (.sym r0),.int .u64 (.sym r1),.int .u64 (.sym r2),.int .u64 (.sym r3),.int .u64 (.sym r4),.int .u64 (.sym r5),.int .u64 (.sym r6),.int .u64 (.sym r7),.bool (.lit true)]))
 | _,_=>False
def VCPInf:Prop :=
 (IntKind.u64=IntKind.u64/\(0:Int)=(0:Int))/\(IntKind.u64=IntKind.u64/\(0:Int)=(0:Int))/\(IntKind.u64=IntKind.u64/\(0:Int)=(0:Int))/\(IntKind.u64=IntKind.u64/\(0:Int)=(0:Int))/\(IntKind.u64=IntKind.u64/\(0:Int)=(0:Int))/\(IntKind.u64=IntKind.u64/\(0:Int)=(0:Int))/\(IntKind.u64=IntKind.u64/\(0:Int)=(0:Int))/\(IntKind.u64=IntKind.u64/\(0:Int)=(0:Int))/\true=true/\True
theorem tiePInf (w0:World)  : VCPInf  = ((recN (GC Tryz.prog pt6aSpec w0) 40).call 39 [] [] (fun r__ _=>eqV r__ (.agg [.int .u64 (.sym (0)),.int .u64 (.sym (0)),.int .u64 (.sym (0)),.int .u64 (.sym (0)),.int .u64 (.sym (0)),.int .u64 (.sym (0)),.int .u64 (.sym (0)),.int .u64 (.sym (0)),.bool (.lit true)]))):=by kernel_rfl
theorem purePInf (h:True):VCPInf:=by unfold VCPInf; simp
theorem pInf_ok:SpecOk Tryz.prog 39 pInfSpec:=by
 intro args k h
 unfold pInfSpec at h
 split at h
 ·obtain ⟨hr,h⟩:=h
  exact ⟨_,h _ rfl _ rfl _ rfl _ rfl _ rfl _ rfl _ rfl _ rfl,PureOk.of_tie (GC Tryz.prog pt6aSpec) (fun w__=>gok w__ namesOk_ mixed_ pt6a_ok) (fun _=>rfl) (fun _=>rfl) (args':=[]) trivial 40 (fun w__=>VCPInf ) (fun w__=>tiePInf w__ ) (fun w__=>purePInf  hr)⟩
 ·exact h.elim

end Go.Proofs.YtaaobpalpcdlbaaGreat.Bits
