import Derived.Test.YtifbolmkiafmgaaSxR
import Derived.Test.YtifbolmkiafmgaaSxU
import Derived.Test.YtifbolmkiafmgaaProg
import Derived.KernelRfl
namespace Go.Proofs.Ytifbolmkiafmgaa.A
open Go Go.Sx Go.RowKit
set_option linter.unusedVariables false
set_option maxRecDepth 100000
theorem namesOk_ : namesOk Try.prog = true := by kernel_rfl
theorem mixed_ : Try.prog.follows .mixedOrders = true := by kernel_rfl
def mixF (s : Int) : Int :=
  let z1 := IntKind.u64.wrap (s + 11400714819323198485)
  let z2 := IntKind.u64.wrap (bitI .xor .u64 z1 (shrI .u64 z1 30) * 13787848793156543929)
  let z3 := IntKind.u64.wrap (bitI .xor .u64 z2 (shrI .u64 z2 27) * 10723151780598845931)
  bitI .xor .u64 z3 (shrI .u64 z3 31)
--@PLAIN
def mixSpec : CSpec
  | [.int .u64 s], k => ((U64 s.val)) ∧ (∀ r0 : Int, r0 = (mixF s.val) → k (.int .u64 (.sym r0)))
  | _, _ => False
def VCMix (s : Int) : Prop :=
  ∀ v1, v1 = IntKind.u64.wrap (s + (11400714819323198485 : Int)) -> ∀ v2, v2 = shrI IntKind.u64 v1 (30 : Int) -> ∀ v3, v3 = bitI BinOp.xor IntKind.u64 v1 v2 -> ∀ v4, v4 = IntKind.u64.wrap (v3 * (13787848793156543929 : Int)) -> ∀ v5, v5 = shrI IntKind.u64 v4 (27 : Int) -> ∀ v6, v6 = bitI BinOp.xor IntKind.u64 v4 v5 -> ∀ v7, v7 = IntKind.u64.wrap (v6 * (10723151780598845931 : Int)) -> ∀ v8, v8 = shrI IntKind.u64 v7 (31 : Int) -> ∀ v9, v9 = bitI BinOp.xor IntKind.u64 v7 v8 -> IntKind.u64 = IntKind.u64 /\ v9 = mixF s
theorem tieMix (w0 : World) (s : Int) : VCMix s = ((recN (GC Try.prog [] w0) 20).call 7 [.int .u64 (.sym s)] [] (fun r__ _ => eqV r__ (.int .u64 (.sym (mixF s))))) := by kernel_rfl
theorem pureMix (s : Int) (h : U64 s) : VCMix s := by
  unfold VCMix
  simp only [forall_eq]
  exact ⟨trivial, rfl⟩
theorem mix_ok : SpecOk Try.prog 7 mixSpec := by
  intro args k h
  unfold mixSpec at h
  split at h
  · rename_i s
    obtain ⟨hr, h⟩ := h
    exact ⟨_, h _ rfl, PureOk.of_tie (GC Try.prog []) (fun w__ => gok w__ namesOk_ mixed_ trivial) (fun _ => rfl) (fun _ => rfl) (args' := [.int .u64 (.sym s.val)]) ⟨⟨rfl, rfl⟩, trivial⟩ 20 (fun w__ => VCMix s.val) (fun w__ => tieMix w__ s.val) (fun w__ => pureMix s.val hr)⟩
  · exact h.elim

def rMixSpec : CSpec
  | [.int .u64 s], k => ((U64 s.val)) ∧ (∀ r0 : Int, r0 = (mixF s.val) → k (.int .u64 (.sym r0)))
  | _, _ => False
def VCRMix (s : Int) : Prop :=
  ∀ v1, v1 = IntKind.u64.wrap (s + (11400714819323198485 : Int)) -> ∀ v2, v2 = shrI IntKind.u64 v1 (30 : Int) -> ∀ v3, v3 = bitI BinOp.xor IntKind.u64 v1 v2 -> ∀ v4, v4 = IntKind.u64.wrap (v3 * (13787848793156543929 : Int)) -> ∀ v5, v5 = shrI IntKind.u64 v4 (27 : Int) -> ∀ v6, v6 = bitI BinOp.xor IntKind.u64 v4 v5 -> ∀ v7, v7 = IntKind.u64.wrap (v6 * (10723151780598845931 : Int)) -> ∀ v8, v8 = shrI IntKind.u64 v7 (31 : Int) -> ∀ v9, v9 = bitI BinOp.xor IntKind.u64 v7 v8 -> IntKind.u64 = IntKind.u64 /\ v9 = mixF s
theorem tieRMix (w0 : World) (s : Int) : VCRMix s = ((recN (GC Try.prog [] w0) 20).call 8 [.int .u64 (.sym s)] [] (fun r__ _ => eqV r__ (.int .u64 (.sym (mixF s))))) := by kernel_rfl
theorem pureRMix (s : Int) (h : U64 s) : VCRMix s := by
  unfold VCRMix
  simp only [forall_eq]
  exact ⟨trivial, rfl⟩
theorem rMix_ok : SpecOk Try.prog 8 rMixSpec := by
  intro args k h
  unfold rMixSpec at h
  split at h
  · rename_i s
    obtain ⟨hr, h⟩ := h
    exact ⟨_, h _ rfl, PureOk.of_tie (GC Try.prog []) (fun w__ => gok w__ namesOk_ mixed_ trivial) (fun _ => rfl) (fun _ => rfl) (args' := [.int .u64 (.sym s.val)]) ⟨⟨rfl, rfl⟩, trivial⟩ 20 (fun w__ => VCRMix s.val) (fun w__ => tieRMix w__ s.val) (fun w__ => pureRMix s.val hr)⟩
  · exact h.elim

theorem xor_in (x y : Int) : U64 (bitI .xor .u64 x y) := by unfold bitI; exact u64_in _
theorem mix_in (s : Int) : U64 (mixF s) := xor_in _ _
end Go.Proofs.Ytifbolmkiafmgaa.A
