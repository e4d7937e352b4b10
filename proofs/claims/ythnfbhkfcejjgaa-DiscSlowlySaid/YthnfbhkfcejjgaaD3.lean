import Derived.Test.YthnfbhkfcejjgaaSxR
import Derived.Test.YthnfbhkfcejjgaaProg
import Derived.Test.YthnfbhkfcejjgaaD
import Derived.KernelRfl
namespace Go.Proofs.Ythnfbhkfcejjgaa.D
open Go Go.Sx Go.RowKit Go.Proofs.Ythnfbhkfcejjgaa.C Go.Proofs.Ythnfbhkfcejjgaa.U
open Go.Proofs.Ythnfbhkfcejjgaa.C (scaledF clamp)
set_option linter.unusedVariables false
set_option maxRecDepth 100000
def tickN (n : Int) : Int := scaledF (clamp 0 1048576 n * 4294967296) 500
def goodT (w n : Int) : Int := clamp (-(tickN n)) (tickN n) w
--@PLAIN
def newSpec : CSpec
  | [], k => (True) ∧ (∀ r0 : Int, r0 = (0) → ∀ r1 : Int, r1 = (-1) → ∀ r2 : Int, r2 = (0) → ∀ r3 : Int, r3 = (6) → ∀ r4 : Int, r4 = (0) → k (.agg [.int .i64 (.sym r0), .int .i64 (.sym r1), .int .i64 (.sym r2), .int .i64 (.sym r3), .int .i64 (.sym r4)]))
  | _, _ => False
def VCNew : Prop :=
  (IntKind.i64 = IntKind.i64 /\ (0 : Int) = (0 : Int)) /\ (IntKind.i64 = IntKind.i64 /\ (-1 : Int) = (-1 : Int)) /\ (IntKind.i64 = IntKind.i64 /\ (0 : Int) = (0 : Int)) /\ (IntKind.i64 = IntKind.i64 /\ (6 : Int) = (6 : Int)) /\ (IntKind.i64 = IntKind.i64 /\ (0 : Int) = (0 : Int)) /\ True
theorem tieNew (w0 : World)  : VCNew  = ((recN (GC Try.prog [] w0) 30).call 12 [] [] (fun r__ _ => eqV r__ (.agg [.int .i64 (.sym (0)), .int .i64 (.sym (-1)), .int .i64 (.sym (0)), .int .i64 (.sym (6)), .int .i64 (.sym (0))]))) := by kernel_rfl
theorem pureNew (h : True) : VCNew := by simp [VCNew]
theorem new_ok : SpecOk Try.prog 12 newSpec := by
  intro args k h
  unfold newSpec at h
  split at h
  · obtain ⟨hr, h⟩ := h
    exact ⟨_, h _ rfl _ rfl _ rfl _ rfl _ rfl, PureOk.of_tie (GC Try.prog []) (fun w__ => gok w__ namesOk_ mixed_ trivial) (fun _ => rfl) (fun _ => rfl) (args' := []) trivial 30 (fun w__ => VCNew ) (fun w__ => tieNew w__ ) (fun w__ => pureNew  hr)⟩
  · exact h.elim


def rNewSpec : CSpec
  | [], k => (True) ∧ (∀ r0 : Int, r0 = (0) → ∀ r1 : Int, r1 = (-1) → ∀ r2 : Int, r2 = (0) → ∀ r3 : Int, r3 = (6) → ∀ r4 : Int, r4 = (0) → k (.agg [.int .i64 (.sym r0), .int .i64 (.sym r1), .int .i64 (.sym r2), .int .i64 (.sym r3), .int .i64 (.sym r4)]))
  | _, _ => False
def VCRNew : Prop :=
  (IntKind.i64 = IntKind.i64 /\ (0 : Int) = (0 : Int)) /\ (IntKind.i64 = IntKind.i64 /\ (-1 : Int) = (-1 : Int)) /\ (IntKind.i64 = IntKind.i64 /\ (0 : Int) = (0 : Int)) /\ (IntKind.i64 = IntKind.i64 /\ (6 : Int) = (6 : Int)) /\ (IntKind.i64 = IntKind.i64 /\ (0 : Int) = (0 : Int)) /\ True
theorem tieRNew (w0 : World)  : VCRNew  = ((recN (GC Try.prog [] w0) 30).call 13 [] [] (fun r__ _ => eqV r__ (.agg [.int .i64 (.sym (0)), .int .i64 (.sym (-1)), .int .i64 (.sym (0)), .int .i64 (.sym (6)), .int .i64 (.sym (0))]))) := by kernel_rfl
theorem pureRNew (h : True) : VCRNew := by simp [VCRNew]
theorem rNew_ok : SpecOk Try.prog 13 rNewSpec := by
  intro args k h
  unfold rNewSpec at h
  split at h
  · obtain ⟨hr, h⟩ := h
    exact ⟨_, h _ rfl _ rfl _ rfl _ rfl _ rfl, PureOk.of_tie (GC Try.prog []) (fun w__ => gok w__ namesOk_ mixed_ trivial) (fun _ => rfl) (fun _ => rfl) (args' := []) trivial 30 (fun w__ => VCRNew ) (fun w__ => tieRNew w__ ) (fun w__ => pureRNew  hr)⟩
  · exact h.elim


theorem shl32i (x : Int) : shlI .i64 x 32 = IntKind.i64.wrap (x * 4294967296) := shlN .i64 x 32 32 4294967296
theorem tickN_eq (n : Int) : tickN n = (clamp 0 1048576 n * 4294967296 * 500 + 999999) / 1000000 := by
  have b : 0 ≤ clamp 0 1048576 n := by unfold clamp; (repeat' split) <;> omega
  unfold tickN scaledF
  rw [if_neg (by omega), show clamp 0 1000000 500 = 500 from rfl]
theorem tickN_in (n : Int) : 0 ≤ tickN n ∧ tickN n ≤ 2251799813685249 := by
  have b : 0 ≤ clamp 0 1048576 n ∧ clamp 0 1048576 n ≤ 1048576 := by unfold clamp; constructor <;> (repeat' split) <;> omega
  rw [tickN_eq]; omega
def fitSpec : CSpec
  | [.agg [.int .i64 u, .int .i64 s, .int .i64 w, .int .i64 p, .int .i64 c]], k => ((I64 u.val) ∧ (I64 s.val) ∧ (I64 w.val) ∧ (I64 p.val) ∧ (I64 c.val)) ∧ (∀ r0 : Bool, r0 = (fitF u.val s.val w.val p.val c.val) → k (.bool (.sym r0)))
  | _, _ => False
def VCFit (u : Int) (s : Int) (w : Int) (p : Int) (c : Int) : Prop :=
  ∀ v1, v1 = decide ((0 : Int) ≤ u) -> (v1 = true -> ∀ v2, v2 = decide (u ≤ (1099511627776 : Int)) -> (v2 = true -> ∀ v3, v3 = decide ((-1 : Int) ≤ s) -> (v3 = true -> ∀ v4, v4 = decide (s ≤ (1099511627776 : Int)) -> (v4 = true -> ∀ v5, v5 = decide ((-549755813 : Int) ≤ w) -> (v5 = true -> ∀ v6, v6 = decide (w ≤ (549755813 : Int)) -> (v6 = true -> ∀ v7, v7 = decide ((6 : Int) ≤ p) -> (v7 = true -> ∀ v8, v8 = decide (p ≤ (10 : Int)) -> (v8 = true -> ∀ v9, v9 = decide ((-3 : Int) ≤ c) -> (v9 = true -> ∀ v10, v10 = decide (c ≤ (3 : Int)) -> v10 = fitF u s w p c) /\ (v9 = false -> false = fitF u s w p c)) /\ (v8 = false -> false = fitF u s w p c)) /\ (v7 = false -> false = fitF u s w p c)) /\ (v6 = false -> false = fitF u s w p c)) /\ (v5 = false -> false = fitF u s w p c)) /\ (v4 = false -> false = fitF u s w p c)) /\ (v3 = false -> false = fitF u s w p c)) /\ (v2 = false -> false = fitF u s w p c)) /\ (v1 = false -> false = fitF u s w p c)
theorem tieFit (w0 : World) (u : Int) (s : Int) (w : Int) (p : Int) (c : Int) : VCFit u s w p c = ((recN (GC Try.prog [] w0) 30).call 14 [.agg [.int .i64 (.sym u), .int .i64 (.sym s), .int .i64 (.sym w), .int .i64 (.sym p), .int .i64 (.sym c)]] [] (fun r__ _ => eqV r__ (.bool (.sym (fitF u s w p c))))) := by kernel_rfl
theorem pureFit (u s w p c : Int) (h : I64 u ∧ I64 s ∧ I64 w ∧ I64 p ∧ I64 c) : VCFit u s w p c := by
  unfold VCFit
  repeat' (first | refine br (fun _ => ?_) (fun _ => ?_) | intro _ _)
  all_goals first
    | exact (decide_eq_false (by omega)).symm
    | (subst_vars; exact decide_eq_decide.2 ⟨fun _ => by omega, fun _ => by omega⟩)
theorem fit_ok : SpecOk Try.prog 14 fitSpec := by
  intro args k h
  unfold fitSpec at h
  split at h
  · rename_i u s w p c
    obtain ⟨hr, h⟩ := h
    exact ⟨_, h _ rfl, PureOk.of_tie (GC Try.prog []) (fun w__ => gok w__ namesOk_ mixed_ trivial) (fun _ => rfl) (fun _ => rfl) (args' := [.agg [.int .i64 (.sym u.val), .int .i64 (.sym s.val), .int .i64 (.sym w.val), .int .i64 (.sym p.val), .int .i64 (.sym c.val)]]) ⟨⟨⟨rfl, rfl⟩, ⟨rfl, rfl⟩, ⟨rfl, rfl⟩, ⟨rfl, rfl⟩, ⟨rfl, rfl⟩, trivial⟩, trivial⟩ 30 (fun w__ => VCFit u.val s.val w.val p.val c.val) (fun w__ => tieFit w__ u.val s.val w.val p.val c.val) (fun w__ => pureFit u.val s.val w.val p.val c.val hr)⟩
  · exact h.elim


def rFitSpec : CSpec
  | [.agg [.int .i64 u, .int .i64 s, .int .i64 w, .int .i64 p, .int .i64 c]], k => ((I64 u.val) ∧ (I64 s.val) ∧ (I64 w.val) ∧ (I64 p.val) ∧ (I64 c.val)) ∧ (∀ r0 : Bool, r0 = (fitF u.val s.val w.val p.val c.val) → k (.bool (.sym r0)))
  | _, _ => False
def VCRFit (u : Int) (s : Int) (w : Int) (p : Int) (c : Int) : Prop :=
  ∀ v1, v1 = decide (u ≥ (0 : Int)) -> (v1 = true -> ∀ v2, v2 = decide (u ≤ (1099511627776 : Int)) -> (v2 = true -> ∀ v3, v3 = decide (s ≥ (-1 : Int)) -> (v3 = true -> ∀ v4, v4 = decide (s ≤ (1099511627776 : Int)) -> (v4 = true -> ∀ v5, v5 = decide (w ≥ (-549755813 : Int)) -> (v5 = true -> ∀ v6, v6 = decide (w ≤ (549755813 : Int)) -> (v6 = true -> ∀ v7, v7 = decide (p ≥ (6 : Int)) -> (v7 = true -> ∀ v8, v8 = decide (p ≤ (10 : Int)) -> (v8 = true -> ∀ v9, v9 = decide (c ≥ (-3 : Int)) -> (v9 = true -> ∀ v10, v10 = decide (c ≤ (3 : Int)) -> v10 = fitF u s w p c) /\ (v9 = false -> false = fitF u s w p c)) /\ (v8 = false -> false = fitF u s w p c)) /\ (v7 = false -> false = fitF u s w p c)) /\ (v6 = false -> false = fitF u s w p c)) /\ (v5 = false -> false = fitF u s w p c)) /\ (v4 = false -> false = fitF u s w p c)) /\ (v3 = false -> false = fitF u s w p c)) /\ (v2 = false -> false = fitF u s w p c)) /\ (v1 = false -> false = fitF u s w p c)
theorem tieRFit (w0 : World) (u : Int) (s : Int) (w : Int) (p : Int) (c : Int) : VCRFit u s w p c = ((recN (GC Try.prog [] w0) 30).call 7 [.agg [.int .i64 (.sym u), .int .i64 (.sym s), .int .i64 (.sym w), .int .i64 (.sym p), .int .i64 (.sym c)]] [] (fun r__ _ => eqV r__ (.bool (.sym (fitF u s w p c))))) := by kernel_rfl
theorem pureRFit (u s w p c : Int) (h : I64 u ∧ I64 s ∧ I64 w ∧ I64 p ∧ I64 c) : VCRFit u s w p c := by
  unfold VCRFit
  repeat' (first | refine br (fun _ => ?_) (fun _ => ?_) | intro _ _)
  all_goals first
    | exact (decide_eq_false (by omega)).symm
    | (subst_vars; exact decide_eq_decide.2 ⟨fun _ => by omega, fun _ => by omega⟩)
theorem rFit_ok : SpecOk Try.prog 7 rFitSpec := by
  intro args k h
  unfold rFitSpec at h
  split at h
  · rename_i u s w p c
    obtain ⟨hr, h⟩ := h
    exact ⟨_, h _ rfl, PureOk.of_tie (GC Try.prog []) (fun w__ => gok w__ namesOk_ mixed_ trivial) (fun _ => rfl) (fun _ => rfl) (args' := [.agg [.int .i64 (.sym u.val), .int .i64 (.sym s.val), .int .i64 (.sym w.val), .int .i64 (.sym p.val), .int .i64 (.sym c.val)]]) ⟨⟨⟨rfl, rfl⟩, ⟨rfl, rfl⟩, ⟨rfl, rfl⟩, ⟨rfl, rfl⟩, ⟨rfl, rfl⟩, trivial⟩, trivial⟩ 30 (fun w__ => VCRFit u.val s.val w.val p.val c.val) (fun w__ => tieRFit w__ u.val s.val w.val p.val c.val) (fun w__ => pureRFit u.val s.val w.val p.val c.val hr)⟩
  · exact h.elim


def tickSpec : CSpec
  | [.agg [.int .i64 u, .int .i64 s, .int .i64 w, .int .i64 p, .int .i64 c], .int .i64 n], k => ((I64 u.val) ∧ (I64 s.val) ∧ (I64 w.val) ∧ (I64 p.val) ∧ (I64 c.val) ∧ (I64 n.val) ∧ (fitF u.val s.val w.val p.val c.val = true)) ∧ (∀ r0 : Int, r0 = (u.val) → ∀ r1 : Int, r1 = (s.val) → ∀ r2 : Int, r2 = (w.val - goodT w.val n.val) → ∀ r3 : Int, r3 = (p.val) → ∀ r4 : Int, r4 = (c.val) → ∀ r5 : Int, r5 = (goodT w.val n.val) → k (.tup [.agg [.int .i64 (.sym r0), .int .i64 (.sym r1), .int .i64 (.sym r2), .int .i64 (.sym r3), .int .i64 (.sym r4)], .int .i64 (.sym r5)]))
  | _, _ => False
def VCTick (u : Int) (s : Int) (w : Int) (p : Int) (c : Int) (n : Int) : Prop :=
  ∀ (v1 : Int), (v1 = if (1048576 : Int) < n then (1048576 : Int) else n) -> ∀ (v2 : Int), (v2 = if v1 > (0 : Int) then v1 else (0 : Int)) -> ∀ v3, v3 = shlI IntKind.i64 v2 (32 : Int) -> (I64 v3 /\ I64 (500 : Int)) /\ ∀ v4, v4 = scaledF v3 (500 : Int) -> ∀ v5, v5 = IntKind.i64.wrap ((0 : Int) - v4) -> ∀ (v6 : Int), (v6 = if v4 < w then v4 else w) -> ∀ (v7 : Int), (v7 = if v6 > v5 then v6 else v5) -> ∀ v8, v8 = IntKind.i64.wrap (w - v7) -> ((IntKind.i64 = IntKind.i64 /\ u = u) /\ (IntKind.i64 = IntKind.i64 /\ s = s) /\ (IntKind.i64 = IntKind.i64 /\ v8 = w - goodT w n) /\ (IntKind.i64 = IntKind.i64 /\ p = p) /\ (IntKind.i64 = IntKind.i64 /\ c = c) /\ True) /\ (IntKind.i64 = IntKind.i64 /\ v7 = goodT w n) /\ True
theorem tieTick (w0 : World) (u : Int) (s : Int) (w : Int) (p : Int) (c : Int) (n : Int) : VCTick u s w p c n = ((recN (GC Try.prog scSpec w0) 30).call 9 [.agg [.int .i64 (.sym u), .int .i64 (.sym s), .int .i64 (.sym w), .int .i64 (.sym p), .int .i64 (.sym c)], .int .i64 (.sym n)] [] (fun r__ _ => eqV r__ (.tup [.agg [.int .i64 (.sym (u)), .int .i64 (.sym (s)), .int .i64 (.sym (w - goodT w n)), .int .i64 (.sym (p)), .int .i64 (.sym (c))], .int .i64 (.sym (goodT w n))]))) := by kernel_rfl
theorem pureTick (u s w p c n : Int) (h : I64 u ∧ I64 s ∧ I64 w ∧ I64 p ∧ I64 c ∧ I64 n ∧ fitF u s w p c = true) : VCTick u s w p c n := by
  obtain ⟨_, _, _, _, _, hn, hf⟩ := h
  rw [fit_iff] at hf
  intro v1 h1 v2 h2 v3 h3
  have e2 : v2 = clamp 0 1048576 n := by rw [h2, h1]; unfold clamp; (repeat' split) <;> omega
  have b2 : 0 ≤ v2 ∧ v2 ≤ 1048576 := by rw [e2]; unfold clamp; constructor <;> (repeat' split) <;> omega
  rw [shl32i, i64_id (by omega) (by omega)] at h3
  refine ⟨⟨⟨by omega, by omega⟩, by omega, by omega⟩, fun v4 h4 => ?_⟩
  have e4 : v4 = tickN n := by rw [h4, h3, e2]; rfl
  have b4 := tickN_in n
  rw [← e4] at b4
  intro v5 h5 v6 h6 v7 h7
  rw [i64_id (by omega) (by omega)] at h5
  have e7 : v7 = goodT w n := by
    unfold goodT
    rw [← e4, h7, h6, h5]
    unfold clamp
    (repeat' split) <;> omega
  have b7 : -v4 ≤ v7 ∧ v7 ≤ v4 ∧ -549755813 ≤ w - v7 ∧ w - v7 ≤ 549755813 := by
    rw [h7, h6, h5]
    refine ⟨?_, ?_, ?_, ?_⟩ <;> (repeat' split) <;> omega
  intro v8 h8
  rw [i64_id (by omega) (by omega)] at h8
  exact ⟨⟨⟨rfl, rfl⟩, ⟨rfl, rfl⟩, ⟨rfl, by rw [h8, e7]⟩, ⟨rfl, rfl⟩, ⟨rfl, rfl⟩, trivial⟩, ⟨rfl, e7⟩, trivial⟩
theorem tick_ok : SpecOk Try.prog 9 tickSpec := by
  intro args k h
  unfold tickSpec at h
  split at h
  · rename_i u s w p c n
    obtain ⟨hr, h⟩ := h
    exact ⟨_, h _ rfl _ rfl _ rfl _ rfl _ rfl _ rfl, PureOk.of_tie (GC Try.prog scSpec) (fun w__ => gok w__ namesOk_ mixed_ sc_ok) (fun _ => rfl) (fun _ => rfl) (args' := [.agg [.int .i64 (.sym u.val), .int .i64 (.sym s.val), .int .i64 (.sym w.val), .int .i64 (.sym p.val), .int .i64 (.sym c.val)], .int .i64 (.sym n.val)]) ⟨⟨⟨rfl, rfl⟩, ⟨rfl, rfl⟩, ⟨rfl, rfl⟩, ⟨rfl, rfl⟩, ⟨rfl, rfl⟩, trivial⟩, ⟨rfl, rfl⟩, trivial⟩ 30 (fun w__ => VCTick u.val s.val w.val p.val c.val n.val) (fun w__ => tieTick w__ u.val s.val w.val p.val c.val n.val) (fun w__ => pureTick u.val s.val w.val p.val c.val n.val hr)⟩
  · exact h.elim


def rTickSpec : CSpec
  | [.agg [.int .i64 u, .int .i64 s, .int .i64 w, .int .i64 p, .int .i64 c], .int .i64 n], k => ((I64 u.val) ∧ (I64 s.val) ∧ (I64 w.val) ∧ (I64 p.val) ∧ (I64 c.val) ∧ (I64 n.val) ∧ (fitF u.val s.val w.val p.val c.val = true)) ∧ (∀ r0 : Int, r0 = (u.val) → ∀ r1 : Int, r1 = (s.val) → ∀ r2 : Int, r2 = (w.val - goodT w.val n.val) → ∀ r3 : Int, r3 = (p.val) → ∀ r4 : Int, r4 = (c.val) → ∀ r5 : Int, r5 = (goodT w.val n.val) → k (.tup [.agg [.int .i64 (.sym r0), .int .i64 (.sym r1), .int .i64 (.sym r2), .int .i64 (.sym r3), .int .i64 (.sym r4)], .int .i64 (.sym r5)]))
  | _, _ => False
def VCRTick (u : Int) (s : Int) (w : Int) (p : Int) (c : Int) (n : Int) : Prop :=
  ∀ (v1 : Int), (v1 = if (0 : Int) > n then (0 : Int) else n) -> ∀ (v2 : Int), (v2 = if (1048576 : Int) < v1 then (1048576 : Int) else v1) -> ∀ v3, v3 = shlI IntKind.i64 v2 (32 : Int) -> (I64 v3 /\ I64 (500 : Int)) /\ ∀ v4, v4 = scaledF v3 (500 : Int) -> ∀ v5, v5 = IntKind.i64.wrap ((0 : Int) - v4) -> ∀ (v6 : Int), (v6 = if v5 > w then v5 else w) -> ∀ (v7 : Int), (v7 = if v4 < v6 then v4 else v6) -> ∀ v8, v8 = IntKind.i64.wrap (w - v7) -> ((IntKind.i64 = IntKind.i64 /\ u = u) /\ (IntKind.i64 = IntKind.i64 /\ s = s) /\ (IntKind.i64 = IntKind.i64 /\ v8 = w - goodT w n) /\ (IntKind.i64 = IntKind.i64 /\ p = p) /\ (IntKind.i64 = IntKind.i64 /\ c = c) /\ True) /\ (IntKind.i64 = IntKind.i64 /\ v7 = goodT w n) /\ True
theorem tieRTick (w0 : World) (u : Int) (s : Int) (w : Int) (p : Int) (c : Int) (n : Int) : VCRTick u s w p c n = ((recN (GC Try.prog scSpec w0) 30).call 16 [.agg [.int .i64 (.sym u), .int .i64 (.sym s), .int .i64 (.sym w), .int .i64 (.sym p), .int .i64 (.sym c)], .int .i64 (.sym n)] [] (fun r__ _ => eqV r__ (.tup [.agg [.int .i64 (.sym (u)), .int .i64 (.sym (s)), .int .i64 (.sym (w - goodT w n)), .int .i64 (.sym (p)), .int .i64 (.sym (c))], .int .i64 (.sym (goodT w n))]))) := by kernel_rfl
theorem pureRTick (u s w p c n : Int) (h : I64 u ∧ I64 s ∧ I64 w ∧ I64 p ∧ I64 c ∧ I64 n ∧ fitF u s w p c = true) : VCRTick u s w p c n := by
  obtain ⟨_, _, _, _, _, hn, hf⟩ := h
  rw [fit_iff] at hf
  intro v1 h1 v2 h2 v3 h3
  have e2 : v2 = clamp 0 1048576 n := by rw [h2, h1]; unfold clamp; (repeat' split) <;> omega
  have b2 : 0 ≤ v2 ∧ v2 ≤ 1048576 := by rw [e2]; unfold clamp; constructor <;> (repeat' split) <;> omega
  rw [shl32i, i64_id (by omega) (by omega)] at h3
  refine ⟨⟨⟨by omega, by omega⟩, by omega, by omega⟩, fun v4 h4 => ?_⟩
  have e4 : v4 = tickN n := by rw [h4, h3, e2]; rfl
  have b4 := tickN_in n
  rw [← e4] at b4
  intro v5 h5 v6 h6 v7 h7
  rw [i64_id (by omega) (by omega)] at h5
  have e7 : v7 = goodT w n := by
    unfold goodT
    rw [← e4, h7, h6, h5]
    unfold clamp
    (repeat' split) <;> omega
  have b7 : -v4 ≤ v7 ∧ v7 ≤ v4 ∧ -549755813 ≤ w - v7 ∧ w - v7 ≤ 549755813 := by
    rw [h7, h6, h5]
    refine ⟨?_, ?_, ?_, ?_⟩ <;> (repeat' split) <;> omega
  intro v8 h8
  rw [i64_id (by omega) (by omega)] at h8
  exact ⟨⟨⟨rfl, rfl⟩, ⟨rfl, rfl⟩, ⟨rfl, by rw [h8, e7]⟩, ⟨rfl, rfl⟩, ⟨rfl, rfl⟩, trivial⟩, ⟨rfl, e7⟩, trivial⟩
theorem rTick_ok : SpecOk Try.prog 16 rTickSpec := by
  intro args k h
  unfold rTickSpec at h
  split at h
  · rename_i u s w p c n
    obtain ⟨hr, h⟩ := h
    exact ⟨_, h _ rfl _ rfl _ rfl _ rfl _ rfl _ rfl, PureOk.of_tie (GC Try.prog scSpec) (fun w__ => gok w__ namesOk_ mixed_ sc_ok) (fun _ => rfl) (fun _ => rfl) (args' := [.agg [.int .i64 (.sym u.val), .int .i64 (.sym s.val), .int .i64 (.sym w.val), .int .i64 (.sym p.val), .int .i64 (.sym c.val)], .int .i64 (.sym n.val)]) ⟨⟨⟨rfl, rfl⟩, ⟨rfl, rfl⟩, ⟨rfl, rfl⟩, ⟨rfl, rfl⟩, ⟨rfl, rfl⟩, trivial⟩, ⟨rfl, rfl⟩, trivial⟩ 30 (fun w__ => VCRTick u.val s.val w.val p.val c.val n.val) (fun w__ => tieRTick w__ u.val s.val w.val p.val c.val n.val) (fun w__ => pureRTick u.val s.val w.val p.val c.val n.val hr)⟩
  · exact h.elim


end Go.Proofs.Ythnfbhkfcejjgaa.D
