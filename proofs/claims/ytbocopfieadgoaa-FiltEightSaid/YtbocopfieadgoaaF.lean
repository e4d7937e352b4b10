import Derived.Test.YtbocopfieadgoaaSxR
import Derived.Test.YtbocopfieadgoaaProg
import Derived.Test.YtbocopfieadgoaaRScaled
import Derived.KernelRfl
namespace Go.Proofs.Ytbocopfieadgoaa.F
open Go Go.Sx Go.RowKit Go.Proofs.Ytbocopfieadgoaa.C Go.Proofs.Ytbocopfieadgoaa.U
open Go.Proofs.Ytbocopfieadgoaa.C (scaledF clamp)
set_option linter.unusedVariables false
set_option maxRecDepth 100000
def scSpec : List (FuncId × CSpec) := [(24, scaledSpec), (28, rScaledSpec)]
theorem sc_ok : SpecsOk Try.prog scSpec := ⟨scaled_ok, rScaled_ok, trivial⟩
def goodF (o d p a : Int) : Bool := decide (-140737488355328 ≤ o ∧ o ≤ 140737488355328 ∧ 0 ≤ d ∧ d ≤ 140737488355328 ∧ 0 ≤ p ∧ p ≤ 140737488355328 ∧ 0 ≤ a ∧ a ≤ 1099511627776)
def least (x : Int) : Int := if 140737488355328 < x then 140737488355328 else x
def ageF (a now : Int) : Int := clamp 0 1048576 (now - a)
def agedF (p a now : Int) : Int := least (p + scaledF (ageF a now * 4294967296) 15)
def rootF (d p a now : Int) : Int := least (agedF p a now + (d + 1) / 2)
theorem shl32i (x : Int) : shlI .i64 x 32 = IntKind.i64.wrap (x * 4294967296) := shlN .i64 x 32 32 4294967296
theorem shr1i (x : Int) : shrI .i64 x 1 = x / 2 := shrN .i64 x 1 1 2
theorem good_iff {o d p a : Int} : goodF o d p a = true ↔ -140737488355328 ≤ o ∧ o ≤ 140737488355328 ∧ 0 ≤ d ∧ d ≤ 140737488355328 ∧ 0 ≤ p ∧ p ≤ 140737488355328 ∧ 0 ≤ a ∧ a ≤ 1099511627776 := by simp [goodF]
theorem age_in (a now : Int) : 0 ≤ ageF a now ∧ ageF a now ≤ 1048576 := by unfold ageF clamp; split <;> (try split) <;> omega
theorem scaled15 {x : Int} (h : 0 ≤ x) : scaledF x 15 = (x * 15 + 999999) / 1000000 := by
  unfold scaledF clamp
  rw [if_neg (by omega), if_neg (by omega), if_neg (by omega)]
def goodSpec : CSpec
  | [.agg [.int .i64 o, .int .i64 d, .int .i64 p, .int .i64 a]], k => ((I64 o.val) ∧ (I64 d.val) ∧ (I64 p.val) ∧ (I64 a.val)) ∧ (∀ r0 : Bool, r0 = (goodF o.val d.val p.val a.val) → k (.bool (.sym r0)))
  | _, _ => False
def VCGood (o : Int) (d : Int) (p : Int) (a : Int) : Prop :=
  ∀ v1, v1 = decide (o ≥ (-140737488355328 : Int)) -> (v1 = true -> ∀ v2, v2 = decide (o ≤ (140737488355328 : Int)) -> (v2 = true -> ∀ v3, v3 = decide (d ≥ (0 : Int)) -> (v3 = true -> ∀ v4, v4 = decide (d ≤ (140737488355328 : Int)) -> (v4 = true -> ∀ v5, v5 = decide (p ≥ (0 : Int)) -> (v5 = true -> ∀ v6, v6 = decide (p ≤ (140737488355328 : Int)) -> (v6 = true -> ∀ v7, v7 = decide (a ≥ (0 : Int)) -> (v7 = true -> ∀ v8, v8 = decide (a ≤ (1099511627776 : Int)) -> v8 = goodF o d p a) /\ (v7 = false -> false = goodF o d p a)) /\ (v6 = false -> false = goodF o d p a)) /\ (v5 = false -> false = goodF o d p a)) /\ (v4 = false -> false = goodF o d p a)) /\ (v3 = false -> false = goodF o d p a)) /\ (v2 = false -> false = goodF o d p a)) /\ (v1 = false -> false = goodF o d p a)
theorem tieGood (w0 : World) (o : Int) (d : Int) (p : Int) (a : Int) : VCGood o d p a = ((recN (GC Try.prog [] w0) 20).call 8 [.agg [.int .i64 (.sym o), .int .i64 (.sym d), .int .i64 (.sym p), .int .i64 (.sym a)]] [] (fun r__ _ => eqV r__ (.bool (.sym (goodF o d p a))))) := by kernel_rfl
theorem pureGood (o d p a : Int) (h : I64 o ∧ I64 d ∧ I64 p ∧ I64 a) : VCGood o d p a := by
  refine br (fun e1 => br (fun e2 => br (fun e3 => br (fun e4 => br (fun e5 => br (fun e6 => br (fun e7 v8 h8 => ?_) fun e => ?_) fun e => ?_) fun e => ?_) fun e => ?_) fun e => ?_) fun e => ?_) fun e => ?_
  · rw [h8]
    unfold goodF
    exact decide_eq_decide.2 ⟨fun h => by omega, fun h => by omega⟩
  all_goals exact (decide_eq_false (by omega)).symm
theorem good_ok : SpecOk Try.prog 8 goodSpec := by
  intro args k h
  unfold goodSpec at h
  split at h
  · rename_i o d p a
    obtain ⟨hr, h⟩ := h
    exact ⟨_, h _ rfl, PureOk.of_tie (GC Try.prog []) (fun w__ => gok w__ namesOk_ mixed_ trivial) (fun _ => rfl) (fun _ => rfl) (args' := [.agg [.int .i64 (.sym o.val), .int .i64 (.sym d.val), .int .i64 (.sym p.val), .int .i64 (.sym a.val)]]) ⟨⟨⟨rfl, rfl⟩, ⟨rfl, rfl⟩, ⟨rfl, rfl⟩, ⟨rfl, rfl⟩, trivial⟩, trivial⟩ 20 (fun w__ => VCGood o.val d.val p.val a.val) (fun w__ => tieGood w__ o.val d.val p.val a.val) (fun w__ => pureGood o.val d.val p.val a.val hr)⟩
  · exact h.elim

def agedSpec : CSpec
  | [.agg [.int .i64 o, .int .i64 d, .int .i64 p, .int .i64 a], .int .i64 now], k => ((I64 o.val) ∧ (I64 d.val) ∧ (I64 p.val) ∧ (I64 a.val) ∧ (I64 now.val) ∧ (goodF o.val d.val p.val a.val = true)) ∧ (∀ r0 : Int, r0 = (agedF p.val a.val now.val) → k (.int .i64 (.sym r0)))
  | _, _ => False
def VCAged (p : Int) (a : Int) (now : Int) : Prop :=
  ∀ (v1 : Int), (v1 = if a > now then a else now) -> ∀ v2, v2 = IntKind.i64.wrap (a + (1048576 : Int)) -> ∀ (v3 : Int), (v3 = if v2 < v1 then v2 else v1) -> ∀ v4, v4 = IntKind.i64.wrap (v3 - a) -> ∀ v5, v5 = shlI IntKind.i64 v4 (32 : Int) -> (I64 v5 /\ I64 (15 : Int)) /\ ∀ v6, v6 = scaledF v5 (15 : Int) -> ∀ v7, v7 = IntKind.i64.wrap (p + v6) -> ∀ (v8 : Int), (v8 = if (140737488355328 : Int) < v7 then (140737488355328 : Int) else v7) -> IntKind.i64 = IntKind.i64 /\ v8 = agedF p a now
theorem tieAged (w0 : World) (o : Int) (d : Int) (p : Int) (a : Int) (now : Int) : VCAged p a now = ((recN (GC Try.prog scSpec w0) 20).call 11 [.agg [.int .i64 (.sym o), .int .i64 (.sym d), .int .i64 (.sym p), .int .i64 (.sym a)], .int .i64 (.sym now)] [] (fun r__ _ => eqV r__ (.int .i64 (.sym (agedF p a now))))) := by kernel_rfl
theorem pureAged (o d p a now : Int) (h : I64 o ∧ I64 d ∧ I64 p ∧ I64 a ∧ I64 now ∧ goodF o d p a = true) : VCAged p a now := by
  obtain ⟨_, _, _, _, hn, hg⟩ := h
  rw [good_iff] at hg
  unfold I64 at hn
  intro v1 h1 v2 h2 v3 h3 v4 h4 v5 h5
  rw [i64_id (by omega) (by omega)] at h2
  have e4 : v4 = ageF a now := by
    rw [h4, i64_id]
    · rw [h3, h2, h1]; unfold ageF clamp; split <;> split <;> (try split) <;> (try split) <;> omega
    · rw [h3, h2, h1]; split <;> split <;> omega
    · rw [h3, h2, h1]; split <;> split <;> omega
  have b4 := age_in a now
  rw [← e4] at b4
  rw [shl32i, i64_id (by omega) (by omega)] at h5
  refine ⟨⟨by omega, by omega⟩, fun v6 h6 v7 h7 v8 h8 => ⟨rfl, ?_⟩⟩
  have e6 := scaled15 (show 0 ≤ v5 by omega)
  rw [← h6] at e6
  rw [i64_id (by omega) (by omega)] at h7
  unfold agedF least
  rw [← e4, ← h5, ← h6, ← h7]
  exact h8
theorem aged_ok : SpecOk Try.prog 11 agedSpec := by
  intro args k h
  unfold agedSpec at h
  split at h
  · rename_i o d p a now
    obtain ⟨hr, h⟩ := h
    exact ⟨_, h _ rfl, PureOk.of_tie (GC Try.prog scSpec) (fun w__ => gok w__ namesOk_ mixed_ sc_ok) (fun _ => rfl) (fun _ => rfl) (args' := [.agg [.int .i64 (.sym o.val), .int .i64 (.sym d.val), .int .i64 (.sym p.val), .int .i64 (.sym a.val)], .int .i64 (.sym now.val)]) ⟨⟨⟨rfl, rfl⟩, ⟨rfl, rfl⟩, ⟨rfl, rfl⟩, ⟨rfl, rfl⟩, trivial⟩, ⟨rfl, rfl⟩, trivial⟩ 20 (fun w__ => VCAged p.val a.val now.val) (fun w__ => tieAged w__ o.val d.val p.val a.val now.val) (fun w__ => pureAged o.val d.val p.val a.val now.val hr)⟩
  · exact h.elim

def rAgedSpec : CSpec
  | [.agg [.int .i64 o, .int .i64 d, .int .i64 p, .int .i64 a], .int .i64 now], k => ((I64 o.val) ∧ (I64 d.val) ∧ (I64 p.val) ∧ (I64 a.val) ∧ (I64 now.val) ∧ (goodF o.val d.val p.val a.val = true)) ∧ (∀ r0 : Int, r0 = (agedF p.val a.val now.val) → k (.int .i64 (.sym r0)))
  | _, _ => False
def VCRAged (p : Int) (a : Int) (now : Int) : Prop :=
  ∀ v1, v1 = decide (now > a) -> (v1 = true -> ∀ v2, v2 = IntKind.i64.wrap (now - a) -> ∀ (v3 : Int), (v3 = if (1048576 : Int) < v2 then (1048576 : Int) else v2) -> ∀ v4, v4 = shlI IntKind.i64 v3 (32 : Int) -> (I64 v4 /\ I64 (15 : Int)) /\ ∀ v5, v5 = scaledF v4 (15 : Int) -> ∀ v6, v6 = IntKind.i64.wrap (p + v5) -> ∀ (v7 : Int), (v7 = if (140737488355328 : Int) < v6 then (140737488355328 : Int) else v6) -> IntKind.i64 = IntKind.i64 /\ v7 = agedF p a now) /\ (v1 = false -> (I64 (0 : Int) /\ I64 (15 : Int)) /\ ∀ (v8 : Int), v8 = (0 : Int) -> ∀ v9, v9 = IntKind.i64.wrap (p + v8) -> ∀ (v10 : Int), (v10 = if (140737488355328 : Int) < v9 then (140737488355328 : Int) else v9) -> IntKind.i64 = IntKind.i64 /\ v10 = agedF p a now)
theorem tieRAged (w0 : World) (o : Int) (d : Int) (p : Int) (a : Int) (now : Int) : VCRAged p a now = ((recN (GC Try.prog scSpec w0) 20).call 16 [.agg [.int .i64 (.sym o), .int .i64 (.sym d), .int .i64 (.sym p), .int .i64 (.sym a)], .int .i64 (.sym now)] [] (fun r__ _ => eqV r__ (.int .i64 (.sym (agedF p a now))))) := by kernel_rfl
theorem pureRAged (o d p a now : Int) (h : I64 o ∧ I64 d ∧ I64 p ∧ I64 a ∧ I64 now ∧ goodF o d p a = true) : VCRAged p a now := by
  obtain ⟨_, _, _, _, hn, hg⟩ := h
  rw [good_iff] at hg
  unfold I64 at hn
  refine br (fun e1 v2 h2 v3 h3 v4 h4 => ?_) fun e1 => ⟨⟨by omega, by omega⟩, fun v8 h8 v9 h9 v10 h10 => ⟨rfl, ?_⟩⟩
  · rw [i64_id (by omega) (by omega)] at h2
    have e3 : v3 = ageF a now := by
      rw [h3, h2]; unfold ageF clamp; split <;> split <;> (try split) <;> omega
    have b3 := age_in a now
    rw [← e3] at b3
    rw [shl32i, i64_id (by omega) (by omega)] at h4
    refine ⟨⟨by omega, by omega⟩, fun v5 h5 v6 h6 v7 h7 => ⟨rfl, ?_⟩⟩
    have e5 := scaled15 (show 0 ≤ v4 by omega)
    rw [← h5] at e5
    rw [i64_id (by omega) (by omega)] at h6
    unfold agedF least
    rw [← e3, ← h4, ← h5, ← h6]
    exact h7
  · have e0 : ageF a now = 0 := by unfold ageF clamp; split <;> (try split) <;> omega
    subst h8
    rw [i64_id (by omega) (by omega)] at h9
    unfold agedF least
    rw [e0, scaled15 (by omega), show (0 * 4294967296 * 15 + 999999) / 1000000 = (0 : Int) by decide, ← h9]
    exact h10
theorem rAged_ok : SpecOk Try.prog 16 rAgedSpec := by
  intro args k h
  unfold rAgedSpec at h
  split at h
  · rename_i o d p a now
    obtain ⟨hr, h⟩ := h
    exact ⟨_, h _ rfl, PureOk.of_tie (GC Try.prog scSpec) (fun w__ => gok w__ namesOk_ mixed_ sc_ok) (fun _ => rfl) (fun _ => rfl) (args' := [.agg [.int .i64 (.sym o.val), .int .i64 (.sym d.val), .int .i64 (.sym p.val), .int .i64 (.sym a.val)], .int .i64 (.sym now.val)]) ⟨⟨⟨rfl, rfl⟩, ⟨rfl, rfl⟩, ⟨rfl, rfl⟩, ⟨rfl, rfl⟩, trivial⟩, ⟨rfl, rfl⟩, trivial⟩ 20 (fun w__ => VCRAged p.val a.val now.val) (fun w__ => tieRAged w__ o.val d.val p.val a.val now.val) (fun w__ => pureRAged o.val d.val p.val a.val now.val hr)⟩
  · exact h.elim

end Go.Proofs.Ytbocopfieadgoaa.F
