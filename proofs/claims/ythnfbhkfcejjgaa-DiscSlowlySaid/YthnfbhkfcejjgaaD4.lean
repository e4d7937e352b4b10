import Derived.Test.YthnfbhkfcejjgaaSxR
import Derived.Test.YthnfbhkfcejjgaaProg
import Derived.Test.YthnfbhkfcejjgaaD2
import Derived.Test.YthnfbhkfcejjgaaD3
import Derived.KernelRfl
namespace Go.Proofs.Ythnfbhkfcejjgaa.D
open Go Go.Sx Go.RowKit Go.Proofs.Ythnfbhkfcejjgaa.C Go.Proofs.Ythnfbhkfcejjgaa.U
open Go.Proofs.Ythnfbhkfcejjgaa.C (scaledF clamp)
set_option linter.unusedVariables false
set_option maxRecDepth 100000
def leftF (w : Int) : Int := if w = 0 then 0 else (max w (-w) - 1) * 1000000 / 2147483648000 + 1
def tiSpec : List (FuncId × CSpec) := [(9, tickSpec), (16, rTickSpec)]
theorem ti_ok : SpecsOk Try.prog tiSpec := ⟨tick_ok, rTick_ok, trivial⟩
def leftASpec : St → Inv := fun S =>
  { ι := Int, T := fun i => stS (keepS S [1]) [(4, .int .i64 (.sym i))], R := fun i => 0 ≤ i ∧ i ≤ leftF (hat S 0 2), μ := fun i => (leftF (hat S 0 2) - i).toNat }
def leftBSpec : St → Inv := fun S =>
  { ι := Int, T := fun i => stS (keepS S [1]) [(4, .int .i64 (.sym i))], R := fun i => i = leftF (hat S 0 2), μ := fun i => 0 }
def rLeftASpec : St → Inv := fun S =>
  { ι := Int × Int, T := fun i => stS (keepS S [1]) [(3, .int .i64 (.sym i.1)), (4, .int .i64 (.sym i.2))], R := fun i => 0 ≤ i.1 ∧ i.1 ≤ leftF (hat S 0 2) ∧ leftF (hat S 0 2) ≤ i.2 ∧ i.2 ≤ 1048576, μ := fun i => (i.2 - i.1).toNat }
def leftAnnSpec : Anns := [(10, 0, leftASpec), (10, 2, leftBSpec), (17, 0, rLeftASpec)]
def leftCutSpec : Anns := []
--@PLAIN
theorem left_in {w : Int} (h1 : -549755813 ≤ w) (h2 : w ≤ 549755813) : 0 ≤ leftF w ∧ leftF w ≤ 256 := by
  unfold leftF
  constructor <;> split <;> omega
theorem zero_iff {w n : Int} (h1 : -549755813 ≤ w) (h2 : w ≤ 549755813) (h3 : 0 ≤ n) (h4 : n ≤ 1048576) : w - goodT w n = 0 ↔ leftF w ≤ n := by
  have e : clamp 0 1048576 n = n := by unfold clamp; (repeat' split) <;> omega
  have t := tickN_eq n
  rw [e] at t
  unfold goodT
  generalize tickN n = y at *
  unfold clamp leftF
  constructor <;> (repeat' split) <;> omega
def leftSpec : CSpec
  | [.agg [.int .i64 u, .int .i64 s, .int .i64 w, .int .i64 p, .int .i64 c]], k => ((I64 u.val) ∧ (I64 s.val) ∧ (I64 w.val) ∧ (I64 p.val) ∧ (I64 c.val) ∧ (fitF u.val s.val w.val p.val c.val = true)) ∧ (∀ r0 : Int, r0 = (leftF w.val) → k (.int .i64 (.sym r0)))
  | _, _ => False
def VCLeft (u : Int) (s : Int) (w : Int) (p : Int) (c : Int) : Prop :=
  ∀ v1, v1 = IntKind.i64.wrap ((0 : Int) - w) -> ∀ (v2 : Int), (v2 = if v1 > w then v1 else w) -> ∀ v3, v3 = IntKind.i64.wrap (v2 * (1000000 : Int)) -> ∀ v4, v4 = IntKind.i64.wrap (v3.tdiv (500 : Int)) -> ∀ v5, v5 = shrI IntKind.i64 v4 (32 : Int) -> (∃ (x6 : Int), ((0 : Int) ≤ x6 /\ x6 ≤ leftF w) /\ (True /\ v5 = x6 /\ True) /\ (u = u /\ s = s /\ w = w /\ p = p /\ c = c /\ True) /\ True) /\ ∀ (v7 : Int), (0 : Int) ≤ v7 /\ v7 ≤ leftF w -> (I64 u /\ I64 s /\ I64 w /\ I64 p /\ I64 c /\ I64 v7 /\ fitF u s w p c = true) /\ ∀ v8, v8 = u -> ∀ v9, v9 = s -> ∀ v10, v10 = w - goodT w v7 -> ∀ v11, v11 = p -> ∀ v12, v12 = c -> ∀ v13, v13 = goodT w v7 -> ∀ v14, v14 = (v10 == (0 : Int)) -> (v14 = true -> (∃ (x15 : Int), x15 = leftF w /\ (True /\ v7 = x15 /\ True) /\ (u = u /\ s = s /\ w = w /\ p = p /\ c = c /\ True) /\ (v8 = v8 /\ v9 = v9 /\ v10 = v10 /\ v11 = v11 /\ v12 = v12 /\ True) /\ True) /\ ∀ v16, v16 = leftF w -> ∀ v17, v17 = decide (v16 > (0 : Int)) -> (v17 = true -> ∀ v18, v18 = IntKind.i64.wrap (v16 - (1 : Int)) -> (I64 u /\ I64 s /\ I64 w /\ I64 p /\ I64 c /\ I64 v18 /\ fitF u s w p c = true) /\ ∀ v19, v19 = u -> ∀ v20, v20 = s -> ∀ v21, v21 = w - goodT w v18 -> ∀ v22, v22 = p -> ∀ v23, v23 = c -> ∀ v24, v24 = goodT w v18 -> ∀ v25, v25 = (v21 != (0 : Int)) -> (v25 = true -> IntKind.i64 = IntKind.i64 /\ v16 = leftF w) /\ (v25 = false -> ∀ v26, v26 = IntKind.i64.wrap (v16 - (1 : Int)) -> ∃ (x27 : Int), x27 = leftF w /\ ((True /\ v26 = x27 /\ True) /\ (u = u /\ s = s /\ w = w /\ p = p /\ c = c /\ True) /\ (v8 = v8 /\ v9 = v9 /\ v10 = v10 /\ v11 = v11 /\ v12 = v12 /\ True) /\ True) /\ 0 < 0)) /\ (v17 = false -> IntKind.i64 = IntKind.i64 /\ v16 = leftF w)) /\ (v14 = false -> ∀ v28, v28 = IntKind.i64.wrap (v7 + (1 : Int)) -> ∃ (x29 : Int), ((0 : Int) ≤ x29 /\ x29 ≤ leftF w) /\ ((True /\ v28 = x29 /\ True) /\ (u = u /\ s = s /\ w = w /\ p = p /\ c = c /\ True) /\ True) /\ (leftF w - x29).toNat < (leftF w - v7).toNat)
theorem tieLeft (w0 : World) (u : Int) (s : Int) (w : Int) (p : Int) (c : Int) : VCLeft u s w p c = ((recN (GL Try.prog tiSpec leftAnnSpec leftCutSpec w0) 30).call 10 [.agg [.int .i64 (.sym u), .int .i64 (.sym s), .int .i64 (.sym w), .int .i64 (.sym p), .int .i64 (.sym c)]] [] (fun r__ _ => eqV r__ (.int .i64 (.sym (leftF w))))) := by kernel_rfl
theorem pureLeft (u s w p c : Int) (h : I64 u ∧ I64 s ∧ I64 w ∧ I64 p ∧ I64 c ∧ fitF u s w p c = true) : VCLeft u s w p c := by
  obtain ⟨hu, hs, hw, hp, hc, hF⟩ := h
  have hf := hF
  rw [fit_iff] at hf
  unfold I64 at hu hs hw hp hc
  have b := left_in hf.2.2.1.1 hf.2.2.1.2
  have z : ∀ n, 0 ≤ n → n ≤ 1048576 → (w - goodT w n = 0 ↔ leftF w ≤ n) := fun n => zero_iff hf.2.2.1.1 hf.2.2.1.2
  intro v1 h1 v2 h2 v3 h3 v4 h4 v5 h5
  rw [i64_id (by omega) (by omega)] at h1
  have e2 : v2 = max w (-w) := by rw [h2, h1]; split <;> omega
  rw [i64_id (by omega) (by omega)] at h3
  rw [tdiv_nonneg (by omega), i64_id (by omega) (by omega)] at h4
  rw [shrN .i64 _ 32 _ 4294967296] at h5
  have b5 : 0 ≤ v5 ∧ v5 ≤ leftF w := by unfold leftF; constructor <;> (try split) <;> omega
  refine ⟨⟨v5, b5, by simp⟩, fun v7 h7 => ⟨⟨hu, hs, hw, hp, hc, ⟨by omega, by omega⟩, hF⟩, fun v8 h8 v9 h9 v10 h10 v11 h11 v12 h12 v13 h13 => ?_⟩⟩
  have z7 := z v7 h7.1 (by omega)
  rw [← h10] at z7
  refine brE (fun e => ?_) fun e => ?_
  · refine ⟨⟨v7, by omega, by simp⟩, fun v16 h16 => br (fun e17 v18 h18 => ?_) fun e17 => ⟨rfl, h16⟩⟩
    rw [i64_id (by omega) (by omega)] at h18
    refine ⟨⟨hu, hs, hw, hp, hc, ⟨by omega, by omega⟩, hF⟩, fun v19 h19 v20 h20 v21 h21 v22 h22 v23 h23 v24 h24 => brN (fun e25 => ⟨rfl, h16⟩) fun e25 => ?_⟩
    have z18 := z v18 (by omega) (by omega)
    rw [← h21] at z18
    exact absurd (z18.1 e25) (by omega)
  · intro v28 h28
    rw [i64_id (by omega) (by omega)] at h28
    have : ¬ leftF w ≤ v7 := fun k => e (z7.2 k)
    exact ⟨v28, ⟨by omega, by omega⟩, by simp, by omega⟩
theorem left_ok : SpecOk Try.prog 10 leftSpec := by
  intro args k h
  unfold leftSpec at h
  split at h
  · rename_i u s w p c
    obtain ⟨hr, h⟩ := h
    exact ⟨_, h _ rfl, PureOk.of_tie (GL Try.prog tiSpec leftAnnSpec leftCutSpec) (fun w__ => gokL w__ namesOk_ mixed_ ti_ok) (fun _ => rfl) (fun _ => rfl) (args' := [.agg [.int .i64 (.sym u.val), .int .i64 (.sym s.val), .int .i64 (.sym w.val), .int .i64 (.sym p.val), .int .i64 (.sym c.val)]]) ⟨⟨⟨rfl, rfl⟩, ⟨rfl, rfl⟩, ⟨rfl, rfl⟩, ⟨rfl, rfl⟩, ⟨rfl, rfl⟩, trivial⟩, trivial⟩ 30 (fun w__ => VCLeft u.val s.val w.val p.val c.val) (fun w__ => tieLeft w__ u.val s.val w.val p.val c.val) (fun w__ => pureLeft u.val s.val w.val p.val c.val hr)⟩
  · exact h.elim


def rLeftSpec : CSpec
  | [.agg [.int .i64 u, .int .i64 s, .int .i64 w, .int .i64 p, .int .i64 c]], k => ((I64 u.val) ∧ (I64 s.val) ∧ (I64 w.val) ∧ (I64 p.val) ∧ (I64 c.val) ∧ (fitF u.val s.val w.val p.val c.val = true)) ∧ (∀ r0 : Int, r0 = (leftF w.val) → k (.int .i64 (.sym r0)))
  | _, _ => False
def VCRLeft (u : Int) (s : Int) (w : Int) (p : Int) (c : Int) : Prop :=
  (∃ (x1 : Int × Int), ((0 : Int) ≤ x1.fst /\ x1.fst ≤ leftF w /\ leftF w ≤ x1.snd /\ x1.snd ≤ (1048576 : Int)) /\ (True /\ (0 : Int) = x1.fst /\ (1048576 : Int) = x1.snd /\ True) /\ (u = u /\ s = s /\ w = w /\ p = p /\ c = c /\ True) /\ True) /\ ∀ (v2 : Int × Int), (0 : Int) ≤ v2.fst /\ v2.fst ≤ leftF w /\ leftF w ≤ v2.snd /\ v2.snd ≤ (1048576 : Int) -> ∀ v3, v3 = decide (v2.fst < v2.snd) -> (v3 = true -> ∀ v4, v4 = IntKind.i64.wrap (v2.fst + v2.snd) -> ∀ v5, v5 = IntKind.i64.wrap (v4.tdiv (2 : Int)) -> (I64 u /\ I64 s /\ I64 w /\ I64 p /\ I64 c /\ I64 v5 /\ fitF u s w p c = true) /\ ∀ v6, v6 = u -> ∀ v7, v7 = s -> ∀ v8, v8 = w - goodT w v5 -> ∀ v9, v9 = p -> ∀ v10, v10 = c -> ∀ v11, v11 = goodT w v5 -> ∀ v12, v12 = (v8 == (0 : Int)) -> (v12 = true -> ∃ (x13 : Int × Int), ((0 : Int) ≤ x13.fst /\ x13.fst ≤ leftF w /\ leftF w ≤ x13.snd /\ x13.snd ≤ (1048576 : Int)) /\ ((True /\ v2.fst = x13.fst /\ v5 = x13.snd /\ True) /\ (u = u /\ s = s /\ w = w /\ p = p /\ c = c /\ True) /\ True) /\ (x13.snd - x13.fst).toNat < (v2.snd - v2.fst).toNat) /\ (v12 = false -> ∀ v14, v14 = IntKind.i64.wrap (v5 + (1 : Int)) -> ∃ (x15 : Int × Int), ((0 : Int) ≤ x15.fst /\ x15.fst ≤ leftF w /\ leftF w ≤ x15.snd /\ x15.snd ≤ (1048576 : Int)) /\ ((True /\ v14 = x15.fst /\ v2.snd = x15.snd /\ True) /\ (u = u /\ s = s /\ w = w /\ p = p /\ c = c /\ True) /\ True) /\ (x15.snd - x15.fst).toNat < (v2.snd - v2.fst).toNat)) /\ (v3 = false -> IntKind.i64 = IntKind.i64 /\ v2.fst = leftF w)
theorem tieRLeft (w0 : World) (u : Int) (s : Int) (w : Int) (p : Int) (c : Int) : VCRLeft u s w p c = ((recN (GL Try.prog tiSpec leftAnnSpec leftCutSpec w0) 30).call 17 [.agg [.int .i64 (.sym u), .int .i64 (.sym s), .int .i64 (.sym w), .int .i64 (.sym p), .int .i64 (.sym c)]] [] (fun r__ _ => eqV r__ (.int .i64 (.sym (leftF w))))) := by kernel_rfl
theorem pureRLeft (u s w p c : Int) (h : I64 u ∧ I64 s ∧ I64 w ∧ I64 p ∧ I64 c ∧ fitF u s w p c = true) : VCRLeft u s w p c := by
  obtain ⟨hu, hs, hw, hp, hc, hF⟩ := h
  have hf := hF
  rw [fit_iff] at hf
  unfold I64 at hu hs hw hp hc
  have b := left_in hf.2.2.1.1 hf.2.2.1.2
  have z : ∀ n, 0 ≤ n → n ≤ 1048576 → (w - goodT w n = 0 ↔ leftF w ≤ n) := fun n => zero_iff hf.2.2.1.1 hf.2.2.1.2
  refine ⟨⟨(0, 1048576), ⟨by simp, by simpa using b.1, by simp only; omega, by simp⟩, by simp⟩, ?_⟩
  rintro ⟨lo, hi⟩ ⟨r1, r2, r3, r4⟩
  simp only at r1 r2 r3 r4
  refine br (fun e3 v4 h4 v5 h5 => ?_) fun e3 => ⟨rfl, by simp only at e3 ⊢; omega⟩
  simp only at e3 h4
  rw [i64_id (by omega) (by omega)] at h4
  rw [tdiv_nonneg (by omega), i64_id (by omega) (by omega)] at h5
  refine ⟨⟨hu, hs, hw, hp, hc, ⟨by omega, by omega⟩, hF⟩, fun v6 h6 v7 h7 v8 h8 v9 h9 v10 h10 v11 h11 => ?_⟩
  have z5 := z v5 (by omega) (by omega)
  rw [← h8] at z5
  refine brE (fun e => ?_) fun e => ?_
  · have := z5.1 e
    exact ⟨(lo, v5), ⟨r1, r2, this, by simp only; omega⟩, by simp, by simp only; omega⟩
  · intro v14 h14
    rw [i64_id (by omega) (by omega)] at h14
    have : ¬ leftF w ≤ v5 := fun k => e (z5.2 k)
    exact ⟨(v14, hi), ⟨by simp only; omega, by simp only; omega, r3, r4⟩, by simp, by simp only; omega⟩
theorem rLeft_ok : SpecOk Try.prog 17 rLeftSpec := by
  intro args k h
  unfold rLeftSpec at h
  split at h
  · rename_i u s w p c
    obtain ⟨hr, h⟩ := h
    exact ⟨_, h _ rfl, PureOk.of_tie (GL Try.prog tiSpec leftAnnSpec leftCutSpec) (fun w__ => gokL w__ namesOk_ mixed_ ti_ok) (fun _ => rfl) (fun _ => rfl) (args' := [.agg [.int .i64 (.sym u.val), .int .i64 (.sym s.val), .int .i64 (.sym w.val), .int .i64 (.sym p.val), .int .i64 (.sym c.val)]]) ⟨⟨⟨rfl, rfl⟩, ⟨rfl, rfl⟩, ⟨rfl, rfl⟩, ⟨rfl, rfl⟩, ⟨rfl, rfl⟩, trivial⟩, trivial⟩ 30 (fun w__ => VCRLeft u.val s.val w.val p.val c.val) (fun w__ => tieRLeft w__ u.val s.val w.val p.val c.val) (fun w__ => pureRLeft u.val s.val w.val p.val c.val hr)⟩
  · exact h.elim


end Go.Proofs.Ythnfbhkfcejjgaa.D
