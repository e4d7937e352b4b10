import Derived.Test.YtaaobpalpcdlbaaDoorSxR
import Derived.Test.YtaaobpalpcdlbaaDoorProg
import Derived.Test.YtaaobpalpcdlbaaDoorPa1
import Derived.Test.YtaaobpalpcdlbaaDoorDv4
import Derived.Test.YtaaobpalpcdlbaaDoorByt
import Derived.KernelRfl
namespace Go.Proofs.YtaaobpalpcdlbaaDoor.Bits
open Go Go.Sx Go.RowKit
set_option linter.unusedVariables false
set_option linter.unusedSimpArgs false
set_option maxRecDepth 100000
def hxF (c : Int) : Int := if 48 ≤ c ∧ c ≤ 57 then c - 48 else if 97 ≤ c ∧ c ≤ 102 then c - 87 else -1
def pa2Spec0 : List (FuncId × CSpec) := []
theorem pa2_ok0 : SpecsOk Tryd.prog pa2Spec0 := trivial
--@PLAIN
def hxSpec : CSpec
  | [.int .u8 c], k => ((U8 c.val)) ∧ (∀ r0 : Int, r0 = (hxF c.val) → k (.int .i64 (.sym r0)))
  | _, _ => False
def VCHx (c : Int) : Prop :=
  ∀ v1, v1 = decide (c ≥ (48 : Int)) -> (v1 = true -> ∀ v2, v2 = decide (c ≤ (57 : Int)) -> (v2 = true -> ∀ v3, v3 = IntKind.u8.wrap (c - (48 : Int)) -> ∀ v4, v4 = IntKind.i64.wrap v3 -> IntKind.i64 = IntKind.i64 /\ v4 = hxF c) /\ (v2 = false -> ∀ v5, v5 = decide (c ≥ (97 : Int)) -> (v5 = true -> ∀ v6, v6 = decide (c ≤ (102 : Int)) -> (v6 = true -> ∀ v7, v7 = IntKind.u8.wrap (c - (97 : Int)) -> ∀ v8, v8 = IntKind.i64.wrap v7 -> ∀ v9, v9 = IntKind.i64.wrap (v8 + (10 : Int)) -> IntKind.i64 = IntKind.i64 /\ v9 = hxF c) /\ (v6 = false -> IntKind.i64 = IntKind.i64 /\ (-1 : Int) = hxF c)) /\ (v5 = false -> IntKind.i64 = IntKind.i64 /\ (-1 : Int) = hxF c))) /\ (v1 = false -> ∀ v10, v10 = decide (c ≥ (97 : Int)) -> (v10 = true -> ∀ v11, v11 = decide (c ≤ (102 : Int)) -> (v11 = true -> ∀ v12, v12 = IntKind.u8.wrap (c - (97 : Int)) -> ∀ v13, v13 = IntKind.i64.wrap v12 -> ∀ v14, v14 = IntKind.i64.wrap (v13 + (10 : Int)) -> IntKind.i64 = IntKind.i64 /\ v14 = hxF c) /\ (v11 = false -> IntKind.i64 = IntKind.i64 /\ (-1 : Int) = hxF c)) /\ (v10 = false -> IntKind.i64 = IntKind.i64 /\ (-1 : Int) = hxF c))
theorem tieHx (w0 : World) (c : Int) : VCHx c = ((recN (GC Tryd.prog pa2Spec0 w0) 40).call 50 [.int .u8 (.sym c)] [] (fun r__ _ => eqV r__ (.int .i64 (.sym (hxF c))))) := by kernel_rfl
theorem pureHx (c : Int) (h : U8 c) : VCHx c := by
  unfold VCHx
  unfold U8 at h
  have w8 : ∀ x : Int, 0 ≤ x → x ≤ 255 → IntKind.u8.wrap x = x := fun x a b => by rw [show IntKind.u8.wrap x = x % 256 by simp [IntKind.wrap, IntKind.signed, IntKind.bits]]; omega
  have w64 : ∀ x : Int, 0 ≤ x → x ≤ 255 → IntKind.i64.wrap x = x := fun x a b => i64_id (by omega) (by omega)
  simp only [forall_eq, decide_eq_true_eq, decide_eq_false_iff_not]
  unfold hxF
  refine ⟨fun a => ⟨fun b => ?_, fun b => ⟨fun d => ⟨fun e => ?_, fun e => ?_⟩, fun d => ?_⟩⟩, fun a => ⟨fun d => ⟨fun e => ?_, fun e => ?_⟩, fun d => ?_⟩⟩
  all_goals refine ⟨trivial, ?_⟩
  all_goals (try rw [w8 (c - 48) (by omega) (by omega), w64 (c - 48) (by omega) (by omega)]); (try rw [w8 (c - 97) (by omega) (by omega), w64 (c - 97) (by omega) (by omega), w64 (c - 97 + 10) (by omega) (by omega)])
  all_goals (repeat' split) <;> omega
theorem hx_ok : SpecOk Tryd.prog 50 hxSpec := by
  intro args k h
  unfold hxSpec at h
  split at h
  · rename_i c
    obtain ⟨hr, h⟩ := h
    exact ⟨_, h _ rfl, PureOk.of_tie (GC Tryd.prog pa2Spec0) (fun w__ => gok w__ namesOk_ mixed_ pa2_ok0) (fun _ => rfl) (fun _ => rfl) (args' := [.int .u8 (.sym c.val)]) ⟨⟨rfl, rfl⟩, trivial⟩ 40 (fun w__ => VCHx c.val) (fun w__ => tieHx w__ c.val) (fun w__ => pureHx c.val hr)⟩
  · exact h.elim

end Go.Proofs.YtaaobpalpcdlbaaDoor.Bits
