import Derived.Test.YtifbolmkiafmgaaSxR
import Derived.Test.YtifbolmkiafmgaaSxU
import Derived.Test.YtifbolmkiafmgaaProg
import Derived.Test.YtifbolmkiafmgaaA
import Derived.KernelRfl
namespace Go.Proofs.Ytifbolmkiafmgaa.A
open Go Go.Sx Go.RowKit
set_option linter.unusedVariables false
set_option maxRecDepth 100000
def numF (s k : Int) : Int := mixF (IntKind.u64.wrap (s + IntKind.u64.wrap (IntKind.u64.wrap k * 11400714819323198485)))
def mixsSpec : List (FuncId × CSpec) := [(7, mixSpec), (8, rMixSpec)]
theorem mixs_ok : SpecsOk Try.prog mixsSpec := ⟨mix_ok, rMix_ok, trivial⟩
--@PLAIN
def numSpec : CSpec
  | [.int .u64 s, .int .i64 q], k => ((U64 s.val) ∧ (I64 q.val)) ∧ (∀ r0 : Int, r0 = (numF s.val q.val) → k (.int .u64 (.sym r0)))
  | _, _ => False
def VCNum (s : Int) (q : Int) : Prop :=
  ∀ v1, v1 = IntKind.u64.wrap q -> ∀ v2, v2 = IntKind.u64.wrap (v1 * (11400714819323198485 : Int)) -> ∀ v3, v3 = IntKind.u64.wrap (s + v2) -> U64 v3 /\ ∀ v4, v4 = mixF v3 -> IntKind.u64 = IntKind.u64 /\ v4 = numF s q
theorem tieNum (w0 : World) (s : Int) (q : Int) : VCNum s q = ((recN (GC Try.prog mixsSpec w0) 20).call 9 [.int .u64 (.sym s), .int .i64 (.sym q)] [] (fun r__ _ => eqV r__ (.int .u64 (.sym (numF s q))))) := by kernel_rfl
theorem pureNum (s q : Int) (h : U64 s ∧ I64 q) : VCNum s q := by
  unfold VCNum
  simp only [forall_eq]
  refine ⟨u64_in _, trivial, rfl⟩
theorem num_ok : SpecOk Try.prog 9 numSpec := by
  intro args k h
  unfold numSpec at h
  split at h
  · rename_i s q
    obtain ⟨hr, h⟩ := h
    exact ⟨_, h _ rfl, PureOk.of_tie (GC Try.prog mixsSpec) (fun w__ => gok w__ namesOk_ mixed_ mixs_ok) (fun _ => rfl) (fun _ => rfl) (args' := [.int .u64 (.sym s.val), .int .i64 (.sym q.val)]) ⟨⟨rfl, rfl⟩, ⟨rfl, rfl⟩, trivial⟩ 20 (fun w__ => VCNum s.val q.val) (fun w__ => tieNum w__ s.val q.val) (fun w__ => pureNum s.val q.val hr)⟩
  · exact h.elim

def rNumSpec : CSpec
  | [.int .u64 s, .int .i64 q], k => ((U64 s.val) ∧ (I64 q.val)) ∧ (∀ r0 : Int, r0 = (numF s.val q.val) → k (.int .u64 (.sym r0)))
  | _, _ => False
def VCRNum (s : Int) (q : Int) : Prop :=
  ∀ v1, v1 = IntKind.u64.wrap q -> ∀ v2, v2 = IntKind.u64.wrap (v1 * (11400714819323198485 : Int)) -> ∀ v3, v3 = IntKind.u64.wrap (s + v2) -> U64 v3 /\ ∀ v4, v4 = mixF v3 -> IntKind.u64 = IntKind.u64 /\ v4 = numF s q
theorem tieRNum (w0 : World) (s : Int) (q : Int) : VCRNum s q = ((recN (GC Try.prog mixsSpec w0) 20).call 10 [.int .u64 (.sym s), .int .i64 (.sym q)] [] (fun r__ _ => eqV r__ (.int .u64 (.sym (numF s q))))) := by kernel_rfl
theorem pureRNum (s q : Int) (h : U64 s ∧ I64 q) : VCRNum s q := by
  unfold VCRNum
  simp only [forall_eq]
  refine ⟨u64_in _, trivial, rfl⟩
theorem rNum_ok : SpecOk Try.prog 10 rNumSpec := by
  intro args k h
  unfold rNumSpec at h
  split at h
  · rename_i s q
    obtain ⟨hr, h⟩ := h
    exact ⟨_, h _ rfl, PureOk.of_tie (GC Try.prog mixsSpec) (fun w__ => gok w__ namesOk_ mixed_ mixs_ok) (fun _ => rfl) (fun _ => rfl) (args' := [.int .u64 (.sym s.val), .int .i64 (.sym q.val)]) ⟨⟨rfl, rfl⟩, ⟨rfl, rfl⟩, trivial⟩ 20 (fun w__ => VCRNum s.val q.val) (fun w__ => tieRNum w__ s.val q.val) (fun w__ => pureRNum s.val q.val hr)⟩
  · exact h.elim

theorem num_in (s k : Int) : U64 (numF s k) := mix_in _
end Go.Proofs.Ytifbolmkiafmgaa.A
