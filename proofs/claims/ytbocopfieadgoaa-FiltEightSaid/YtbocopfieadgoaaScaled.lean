import Derived.Test.YtbocopfieadgoaaSxR
import Derived.Test.YtbocopfieadgoaaProg
import Derived.KernelRfl
namespace Go.Proofs.Ytbocopfieadgoaa.C
open Go Go.Sx Go.RowKit
set_option linter.unusedVariables false
set_option maxRecDepth 100000
theorem namesOk_ : namesOk Try.prog = true := by kernel_rfl
theorem mixed_ : Try.prog.follows .mixedOrders = true := by kernel_rfl
def clamp (lo hi n : Int) : Int := if n < lo then lo else if hi < n then hi else n
def scaledF (d p : Int) : Int := if d < 0 ∨ p < 0 then 0 else (d * clamp 0 1000000 p + 999999) / 1000000
def scaledSpec : CSpec
  | [.int .i64 d, .int .i64 p], k => ((I64 d.val) ∧ (I64 p.val)) ∧ (∀ r0 : Int, r0 = (scaledF d.val p.val) → k (.int .i64 (.sym r0)))
  | _, _ => False
def VCScaled (d : Int) (p : Int) : Prop :=
  ∀ v1, v1 = decide (d < (0 : Int)) -> (v1 = false -> ∀ v2, v2 = decide (p < (0 : Int)) -> (v2 = true -> IntKind.i64 = IntKind.i64 /\ (0 : Int) = scaledF d p) /\ (v2 = false -> ∀ (v3 : Int), (v3 = if (1000000 : Int) < p then (1000000 : Int) else p) -> ∀ v4, v4 = IntKind.i64.wrap (d.tdiv (1000000 : Int)) -> ∀ v5, v5 = d.tmod (1000000 : Int) -> ∀ v6, v6 = IntKind.i64.wrap (v4 * v3) -> ∀ v7, v7 = IntKind.i64.wrap (v5 * v3) -> ∀ v8, v8 = IntKind.i64.wrap (v7 + (1000000 : Int)) -> ∀ v9, v9 = IntKind.i64.wrap (v8 - (1 : Int)) -> ∀ v10, v10 = IntKind.i64.wrap (v9.tdiv (1000000 : Int)) -> ∀ v11, v11 = IntKind.i64.wrap (v6 + v10) -> IntKind.i64 = IntKind.i64 /\ v11 = scaledF d p)) /\ (v1 = true -> IntKind.i64 = IntKind.i64 /\ (0 : Int) = scaledF d p)
theorem tieScaled (w0 : World) (d : Int) (p : Int) : VCScaled d p = ((recN (GC Try.prog [] w0) 20).call 24 [.int .i64 (.sym d), .int .i64 (.sym p)] [] (fun r__ _ => eqV r__ (.int .i64 (.sym (scaledF d p))))) := by kernel_rfl
theorem pureScaled (d p : Int) (h : I64 d ∧ I64 p) : VCScaled d p := by
  obtain ⟨hd, hp⟩ := h
  unfold I64 at hd hp
  intro v1 h1
  refine ⟨fun e => ?_, fun e => ⟨rfl, ?_⟩⟩
  · subst h1
    have e : ¬ d < 0 := by simpa using e
    intro v2 h2
    refine ⟨fun e2 => ⟨rfl, ?_⟩, fun e2 v3 h3 v4 h4 v5 h5 v6 h6 v7 h7 v8 h8 v9 h9 v10 h10 v11 h11 => ⟨rfl, ?_⟩⟩
    · subst h2
      have e2 : p < 0 := by simpa using e2
      simp [scaledF, e2]
    · subst h2
      have e2 : ¬ p < 0 := by simpa using e2
      have hv3 : v3 = clamp 0 1000000 p := by rw [h3]; simp only [clamp, e2, if_false]
      have b3 : 0 ≤ v3 ∧ v3 ≤ 1000000 := by rw [h3]; split <;> omega
      rw [tdiv_nonneg (by omega)] at h4
      rw [tmod_nonneg (by omega)] at h5
      have e4 : v4 = d / 1000000 := by rw [h4, i64_id] <;> omega
      have m1 : 0 ≤ v4 * v3 := Int.mul_nonneg (by omega) b3.1
      have m2 : v4 * v3 ≤ v4 * 1000000 := Int.mul_le_mul_of_nonneg_left b3.2 (by omega)
      have m3 : 0 ≤ v5 * v3 := Int.mul_nonneg (by omega) b3.1
      have m4 : v5 * v3 ≤ v5 * 1000000 := Int.mul_le_mul_of_nonneg_left b3.2 (by omega)
      rw [i64_id (by omega) (by omega)] at h6 h7
      rw [i64_id (by omega) (by omega)] at h8
      rw [i64_id (by omega) (by omega)] at h9
      rw [tdiv_nonneg (by omega), i64_id (by omega) (by omega)] at h10
      rw [i64_id (by omega) (by omega)] at h11
      have hd5 : d = v4 * 1000000 + v5 := by omega
      have hdp : d * v3 = (v4 * v3) * 1000000 + v5 * v3 := by
        rw [hd5, Int.add_mul, Int.mul_assoc, Int.mul_comm 1000000 v3, ← Int.mul_assoc]
      simp only [scaledF, e, e2, or_self, if_false]
      rw [← hv3, hdp]
      omega
  · subst h1
    have e : d < 0 := by simpa using e
    simp [scaledF, e]
theorem scaled_ok : SpecOk Try.prog 24 scaledSpec := by
  intro args k h
  unfold scaledSpec at h
  split at h
  · rename_i d p
    obtain ⟨hr, h⟩ := h
    exact ⟨_, h _ rfl, PureOk.of_tie (GC Try.prog []) (fun w__ => gok w__ namesOk_ mixed_ trivial) (fun _ => rfl) (fun _ => rfl) (args' := [.int .i64 (.sym d.val), .int .i64 (.sym p.val)]) ⟨⟨rfl, rfl⟩, ⟨rfl, rfl⟩, trivial⟩ 20 (fun w__ => VCScaled d.val p.val) (fun w__ => tieScaled w__ d.val p.val) (fun w__ => pureScaled d.val p.val hr)⟩
  · exact h.elim


end Go.Proofs.Ytbocopfieadgoaa.C
