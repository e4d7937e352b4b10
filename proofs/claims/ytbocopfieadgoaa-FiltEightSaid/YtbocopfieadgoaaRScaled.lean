import Derived.Test.YtbocopfieadgoaaSxR
import Derived.Test.YtbocopfieadgoaaProg
import Derived.Test.YtbocopfieadgoaaBits2
import Derived.Test.YtbocopfieadgoaaScaled
import Derived.KernelRfl
namespace Go.Proofs.Ytbocopfieadgoaa.U
open Go Go.Sx Go.RowKit Go.Proofs.Ytbocopfieadgoaa.Bits
open Go.Proofs.Ytbocopfieadgoaa.C (scaledF clamp)
set_option linter.unusedVariables false
set_option maxRecDepth 100000
def wordsSpec : List (FuncId × CSpec) := [(35, mul64Spec), (36, div64Spec)]
theorem words_ok : SpecsOk Try.prog wordsSpec := ⟨mul64_ok, div64_ok, trivial⟩
def rScaledSpec : CSpec
  | [.int .i64 d, .int .i64 p], k => ((I64 d.val) ∧ (I64 p.val)) ∧ (∀ r0 : Int, r0 = (scaledF d.val p.val) → k (.int .i64 (.sym r0)))
  | _, _ => False
def VCRScaled (d : Int) (p : Int) : Prop :=
  ∀ v1, v1 = decide (d < (0 : Int)) -> (v1 = false -> ∀ v2, v2 = decide (p < (0 : Int)) -> (v2 = true -> IntKind.i64 = IntKind.i64 /\ (0 : Int) = scaledF d p) /\ (v2 = false -> ∀ v3, v3 = IntKind.u64.wrap d -> ∀ (v4 : Int), (v4 = if (1000000 : Int) < p then (1000000 : Int) else p) -> ∀ v5, v5 = IntKind.u64.wrap v4 -> (U64 v3 /\ U64 v5) /\ ∀ v6, v6 = v3 * v5 / (18446744073709551616 : Int) -> ∀ v7, v7 = v3 * v5 % (18446744073709551616 : Int) -> (U64 v6 /\ U64 v7 /\ U64 1000000 /\ v6 < (1000000 : Int)) /\ ∀ v8, v8 = (v6 * (18446744073709551616 : Int) + v7) / (1000000 : Int) -> ∀ v9, v9 = (v6 * (18446744073709551616 : Int) + v7) % (1000000 : Int) -> ∀ v10, v10 = decide (v9 > (0 : Int)) -> (v10 = true -> ∀ v11, v11 = IntKind.u64.wrap (v8 + (1 : Int)) -> ∀ v12, v12 = IntKind.i64.wrap v11 -> IntKind.i64 = IntKind.i64 /\ v12 = scaledF d p) /\ (v10 = false -> ∀ v13, v13 = IntKind.i64.wrap v8 -> IntKind.i64 = IntKind.i64 /\ v13 = scaledF d p))) /\ (v1 = true -> IntKind.i64 = IntKind.i64 /\ (0 : Int) = scaledF d p)
theorem tieRScaled (w0 : World) (d : Int) (p : Int) : VCRScaled d p = ((recN (GC Try.prog wordsSpec w0) 20).call 28 [.int .i64 (.sym d), .int .i64 (.sym p)] [] (fun r__ _ => eqV r__ (.int .i64 (.sym (scaledF d p))))) := by kernel_rfl
theorem pureRScaled (d p : Int) (h : I64 d ∧ I64 p) : VCRScaled d p := by
  obtain ⟨hd, hp⟩ := h
  unfold I64 at hd hp
  refine rb (fun e1 => br (fun e2 => ⟨rfl, ?_⟩) fun e2 v3 h3 v4 h4 v5 h5 => ?_) (fun e1 => ⟨rfl, ?_⟩)
  · unfold scaledF; rw [if_pos (.inr e2)]
  · have e4 : v4 = clamp 0 1000000 p := by
      rw [h4]; unfold clamp; rw [if_neg e2]
    have b4 : 0 ≤ v4 ∧ v4 ≤ 1000000 := by rw [h4]; split <;> omega
    rw [u64_id (by omega) (by omega)] at h3 h5
    subst h3 h5
    obtain ⟨m0, m1⟩ := mul_in (show 0 ≤ v3 by omega) hd.2 b4.1 b4.2
    refine ⟨⟨by omega, by omega⟩, fun v6 h6 v7 h7 => ⟨⟨by omega, by omega, by omega, by omega⟩, fun v8 h8 v9 h9 => ?_⟩⟩
    have e67 : v6 * 18446744073709551616 + v7 = v3 * v5 := by omega
    rw [e67] at h8 h9
    have top : v3 * v5 ≤ v3 * 1000000 := Int.mul_le_mul_of_nonneg_left b4.2 (by omega)
    have key : scaledF v3 p = (v3 * v5 + 999999) / 1000000 := by
      unfold scaledF
      rw [if_neg (by omega), ← e4]
    refine br (fun e v11 h11 v12 h12 => ⟨rfl, ?_⟩) fun e v13 h13 => ⟨rfl, ?_⟩
    · rw [u64_id (by omega) (by omega)] at h11
      rw [i64_id (by omega) (by omega)] at h12
      rw [key]; omega
    · rw [i64_id (by omega) (by omega)] at h13
      rw [key]; omega
  · unfold scaledF; rw [if_pos (.inl e1)]
theorem rScaled_ok : SpecOk Try.prog 28 rScaledSpec := by
  intro args k h
  unfold rScaledSpec at h
  split at h
  · rename_i d p
    obtain ⟨hr, h⟩ := h
    exact ⟨_, h _ rfl, PureOk.of_tie (GC Try.prog wordsSpec) (fun w__ => gok w__ namesOk_ mixed_ words_ok) (fun _ => rfl) (fun _ => rfl) (args' := [.int .i64 (.sym d.val), .int .i64 (.sym p.val)]) ⟨⟨rfl, rfl⟩, ⟨rfl, rfl⟩, trivial⟩ 20 (fun w__ => VCRScaled d.val p.val) (fun w__ => tieRScaled w__ d.val p.val) (fun w__ => pureRScaled d.val p.val hr)⟩
  · exact h.elim

end Go.Proofs.Ytbocopfieadgoaa.U
