import Derived.Test.YthnfbhkfcejjgaaSxR
import Derived.Test.YthnfbhkfcejjgaaProg
import Derived.Test.YthnfbhkfcejjgaaD5
import Derived.KernelRfl
namespace Go.Proofs.Ythnfbhkfcejjgaa.D
open Go Go.Sx Go.RowKit Go.Proofs.Ythnfbhkfcejjgaa.C Go.Proofs.Ythnfbhkfcejjgaa.U
open Go.Proofs.Ythnfbhkfcejjgaa.C (scaledF clamp)
set_option linter.unusedVariables false
set_option maxRecDepth 100000
def slowSpec : List (FuncId × CSpec) := [(9, tickSpec), (10, leftSpec), (7, rFitSpec), (8, awakeSpec)]
theorem slow_ok : SpecsOk Try.prog slowSpec := ⟨tick_ok, left_ok, rFit_ok, awake_ok, trivial⟩
def slowASpec : St → Inv := fun S =>
  { ι := Int × Int × Int
    T := fun p => stS (keepS (hset S 1 2 (.int .i64 (.sym p.2.1))) [1, 2, 4, 5, 26, 27]) [(6, .int .i64 (.sym p.2.2)), (28, .int .i64 (.sym p.1))]
    R := fun p => (0 ≤ p.1 ∧ p.1 ≤ iat S 27) ∧ (-549755813 ≤ p.2.1 ∧ p.2.1 ≤ 549755813) ∧ p.2.2 + p.2.1 = hat S 0 2
    μ := fun p => (iat S 27 - p.1).toNat }
def slowAnnSpec : Anns := [(3, 0, slowASpec)]
def slowCutSpec : Anns := []
--@PLAIN
theorem ite_max (a b : Int) : (if a > b then a else b) = max a b := by split <;> omega
theorem good_facts {y k : Int} (h0 : 0 ≤ k) (h1 : k ≤ 65535) (y0 : -549755813 ≤ y) (y1 : y ≤ 549755813) :
    (0 ≤ y → 0 ≤ goodT y k ∧ goodT y k ≤ y) ∧ (y ≤ 0 → y ≤ goodT y k ∧ goodT y k ≤ 0) ∧ (goodT y k - 1) * 1000000 ≤ 500 * (k * 4294967296) ∧ (-goodT y k - 1) * 1000000 ≤ 500 * (k * 4294967296) := by
  have e : clamp 0 1048576 k = k := by unfold clamp; (repeat' split) <;> omega
  have t := tickN_eq k
  rw [e] at t
  unfold goodT
  generalize tickN k = z at *
  unfold clamp
  refine ⟨fun _ => ?_, fun _ => ?_, ?_, ?_⟩
  · constructor <;> (repeat' split) <;> omega
  · constructor <;> (repeat' split) <;> omega
  · (repeat' split) <;> omega
  · (repeat' split) <;> omega
theorem end_facts {w : Int} (h1 : -549755813 ≤ w) (h2 : w ≤ 549755813) : (0 ≤ leftF w ∧ leftF w ≤ 256) ∧ w - goodT w (leftF w) = 0 ∧ (leftF w = 0 ↔ w = 0) ∧ (leftF w ≠ 0 → w - goodT w (leftF w - 1) ≠ 0) := by
  have b := left_in h1 h2
  refine ⟨b, (zero_iff h1 h2 b.1 (by omega)).2 (Int.le_refl _), ?_, fun hz z => ?_⟩
  · unfold leftF; split <;> omega
  · have := (zero_iff h1 h2 (show 0 ≤ leftF w - 1 by omega) (by omega)).1 z
    omega
def VCDiscSlowlyN (u : Int) (s : Int) (w : Int) (p : Int) (c : Int) : Prop :=
  (I64 u /\ I64 s /\ I64 w /\ I64 p /\ I64 c) /\ ∀ v1, v1 = fitF u s w p c -> ∀ (v2 : Bool), v2 = !v1 -> (v2 = false -> (∃ (x3 : Int × Int × Int), (((0 : Int) ≤ x3.fst /\ x3.fst ≤ (0 : Int)) /\ ((-549755813 : Int) ≤ x3.snd.fst /\ x3.snd.fst ≤ (549755813 : Int)) /\ x3.snd.snd + x3.snd.fst = w) /\ (Value.slice none 0 0 = Value.slice none 0 0 /\ True /\ false = false /\ True /\ (0 : Int) = x3.snd.snd /\ Value.slice none 0 0 = Value.slice none 0 0 /\ (0 : Int) = (0 : Int) /\ (0 : Int) = x3.fst /\ True) /\ (u = u /\ s = s /\ w = w /\ p = p /\ c = c /\ True) /\ (u = u /\ s = s /\ w = x3.snd.fst /\ p = p /\ c = c /\ True) /\ True) /\ ∀ (v4 : Int × Int × Int), ((0 : Int) ≤ v4.fst /\ v4.fst ≤ (0 : Int)) /\ ((-549755813 : Int) ≤ v4.snd.fst /\ v4.snd.fst ≤ (549755813 : Int)) /\ v4.snd.snd + v4.snd.fst = w -> ∀ v5, v5 = decide (v4.fst < (0 : Int)) -> (v5 = true -> False) /\ (v5 = false -> (I64 u /\ I64 s /\ I64 w /\ I64 p /\ I64 c /\ fitF u s w p c = true) /\ ∀ v6, v6 = leftF w -> (I64 u /\ I64 s /\ I64 w /\ I64 p /\ I64 c /\ I64 v6 /\ fitF u s w p c = true) /\ ∀ v7, v7 = u -> ∀ v8, v8 = s -> ∀ v9, v9 = w - goodT w v6 -> ∀ v10, v10 = p -> ∀ v11, v11 = c -> ∀ v12, v12 = goodT w v6 -> ∀ v13, v13 = IntKind.i64.wrap (v6 - (1 : Int)) -> (I64 u /\ I64 s /\ I64 w /\ I64 p /\ I64 c /\ I64 v13 /\ fitF u s w p c = true) /\ ∀ v14, v14 = u -> ∀ v15, v15 = s -> ∀ v16, v16 = w - goodT w v13 -> ∀ v17, v17 = p -> ∀ v18, v18 = c -> ∀ v19, v19 = goodT w v13 -> ∀ v20, v20 = IntKind.i64.wrap (v4.snd.snd + v4.snd.fst) -> ∀ v21, v21 = (v20 == w) -> (v21 = true -> ∀ v22, v22 = (v9 == (0 : Int)) -> (v22 = true -> ∀ v23, v23 = (v6 == (0 : Int)) -> ∀ v24, v24 = (w == (0 : Int)) -> ∀ v25, v25 = (v23 == v24) -> (v25 = true -> ∀ v26, v26 = (v6 == (0 : Int)) -> (v26 = false -> ∀ v27, v27 = (v16 != (0 : Int)) -> (v27 = true -> True /\ true = true) /\ (v27 = false -> false = true)) /\ (v26 = true -> True /\ true = true)) /\ (v25 = false -> false = true)) /\ (v22 = false -> false = true)) /\ (v21 = false -> false = true))) /\ (v2 = true -> True /\ true = true)
theorem tieDiscSlowlyN (w0 : World) (u : Int) (s : Int) (w : Int) (p : Int) (c : Int) : VCDiscSlowlyN u s w p c = ((recN (GL Try.prog slowSpec slowAnnSpec slowCutSpec w0) 40).call 3 [.agg [.int .i64 (.sym u), .int .i64 (.sym s), .int .i64 (.sym w), .int .i64 (.sym p), .int .i64 (.sym c)], .val (.slice none 0 0)] [] (fun v _ => isTrue v)) := by kernel_rfl
theorem pureDiscSlowlyN (u s w p c : Int) (h : I64 u ∧ I64 s ∧ I64 w ∧ I64 p ∧ I64 c) : VCDiscSlowlyN u s w p c := by
  obtain ⟨hu, hs, hw, hp, hc⟩ := h
  unfold VCDiscSlowlyN
  refine ⟨⟨hu, hs, hw, hp, hc⟩, fun v1 h1 v2 h2 => ⟨fun z => ?_, fun _ => ⟨trivial, rfl⟩⟩⟩
  have hg : fitF u s w p c = true := by rw [← h1]; rw [h2] at z; simpa using z
  have hf := hg
  rw [fit_iff] at hf
  obtain ⟨e1, e2, e3, e4⟩ := end_facts hf.2.2.1.1 hf.2.2.1.2
  refine ⟨⟨(0, w, 0), ⟨⟨by dsimp only; omega, by dsimp only; omega⟩, ⟨by dsimp only; omega, by dsimp only; omega⟩, by dsimp only; omega⟩, by simp⟩, ?_⟩
  rintro ⟨i, y, sm⟩ ⟨⟨i0, i1⟩, ⟨y0, y1⟩, hs0⟩
  dsimp only at i0 i1 y0 y1 hs0 ⊢
  have w1 : IntKind.i64.wrap (leftF w - 1) = leftF w - 1 := i64_id (by omega) (by omega)
  have w2 : IntKind.i64.wrap (sm + y) = w := by rw [hs0]; exact i64_id (by omega) (by omega)
  have a1 : I64 (leftF w) := by unfold I64; omega
  have a2 : I64 (leftF w - 1) := by unfold I64; omega
  refine br (fun c => absurd c (by omega)) (fun _ => ?_)
  refine ⟨⟨hu, hs, hw, hp, hc, hg⟩, fun v6 h6 => ⟨⟨hu, hs, hw, hp, hc, by rw [h6]; exact a1, hg⟩, fun v7 _ v8 _ v9 h9 v10 _ v11 _ v12 _ v13 h13 => ⟨⟨hu, hs, hw, hp, hc, by rw [h13, h6, w1]; exact a2, hg⟩, fun v14 _ v15 _ v16 h16 v17 _ v18 _ v19 _ v20 h20 => brE (fun _ => brE (fun _ => ?_) (fun q => absurd (by rw [h9, h6]; exact e2) q)) (fun q => absurd (by rw [h20, w2]) q)⟩⟩⟩
  intro v23 h23 v24 h24 v25 h25
  have t25 : v25 = true := by
    rw [h25, h23, h24, h6]
    by_cases z0 : w = 0
    · rw [e3.2 z0, z0]; rfl
    · have l0 : leftF w ≠ 0 := fun q => z0 (e3.1 q)
      rw [beq_eq_false_iff_ne.2 z0, beq_eq_false_iff_ne.2 l0]; rfl
  refine ⟨fun _ => rbE (fun q => brN (fun _ => ⟨trivial, rfl⟩) (fun q2 => absurd q2 ?_)) (fun _ => ⟨trivial, rfl⟩), fun q => absurd (t25.symm.trans q) (by decide)⟩
  rw [h16, h13, h6, w1]
  exact e4 (by rwa [h6] at q)
theorem walkDiscSlowlyN (u : Int) (s : Int) (w : Int) (p : Int) (c : Int) (w0 : World) (hu : (Lit.int .i64 u).wf = true) (hs : (Lit.int .i64 s).wf = true) (hw : (Lit.int .i64 w).wf = true) (hp : (Lit.int .i64 p).wf = true) (hc : (Lit.int .i64 c).wf = true) : Calls Try.prog 3 #[.agg #[.int .i64 u, .int .i64 s, .int .i64 w, .int .i64 p, .int .i64 c], .slice none 0 0] w0 fun e w' => e = .returned (.bool true) ∧ Below w0.heap.size w0 w' :=
  law_tie (G := GL Try.prog slowSpec slowAnnSpec slowCutSpec w0) (gokL w0 namesOk_ mixed_ slow_ok) (n := 40) (f := 3) (args := [.agg [.int .i64 (.sym u), .int .i64 (.sym s), .int .i64 (.sym w), .int .i64 (.sym p), .int .i64 (.sym c)], .val (.slice none 0 0)]) (by kernel_rfl) (VCDiscSlowlyN u s w p c) (tieDiscSlowlyN w0 u s w p c) (pureDiscSlowlyN u s w p c ⟨wf_i64 hu, wf_i64 hs, wf_i64 hw, wf_i64 hp, wf_i64 hc⟩)

def VCDiscSlowly (w0 : World) (u : Int) (s : Int) (w : Int) (p : Int) (c : Int) (la : Addr) (ln : Int) (lc : Nat) (g : Int → Int) : Prop :=
  (I64 u /\ I64 s /\ I64 w /\ I64 p /\ I64 c) /\ ∀ v1, v1 = fitF u s w p c -> ∀ (v2 : Bool), v2 = !v1 -> (v2 = false -> (0 : Int) ≤ ln /\ ∀ v3, v3 = decide (ln > (50 : Int)) -> (v3 = true -> True /\ true = true) /\ (v3 = false -> (0 : Int) ≤ ln /\ (∃ (x4 : Int × Int × Int), (((0 : Int) ≤ x4.fst /\ x4.fst ≤ ln) /\ ((-549755813 : Int) ≤ x4.snd.fst /\ x4.snd.fst ≤ (549755813 : Int)) /\ x4.snd.snd + x4.snd.fst = w) /\ ((la = la /\ ln = ln /\ lc = lc) /\ True /\ false = false /\ True /\ (0 : Int) = x4.snd.snd /\ (la = la /\ ln = ln /\ lc = lc) /\ ln = ln /\ (0 : Int) = x4.fst /\ True) /\ (u = u /\ s = s /\ w = w /\ p = p /\ c = c /\ True) /\ (u = u /\ s = s /\ w = x4.snd.fst /\ p = p /\ c = c /\ True) /\ True) /\ ∀ (v5 : Int × Int × Int), ((0 : Int) ≤ v5.fst /\ v5.fst ≤ ln) /\ ((-549755813 : Int) ≤ v5.snd.fst /\ v5.snd.fst ≤ (549755813 : Int)) /\ v5.snd.snd + v5.snd.fst = w -> ∀ v6, v6 = decide (v5.fst < ln) -> (v6 = true -> ((0 : Int) ≤ v5.fst /\ v5.fst < ln) /\ BaseAt (GL Try.prog slowSpec slowAnnSpec slowCutSpec w0).w0 la [FC.int IntKind.u16 g] v5.fst /\ ∀ v7, v7 = g v5.fst -> ∀ v8, v8 = IntKind.i64.wrap v7 -> (I64 u /\ I64 s /\ I64 v5.snd.fst /\ I64 p /\ I64 c /\ I64 v8 /\ fitF u s v5.snd.fst p c = true) /\ ∀ v9, v9 = u -> ∀ v10, v10 = s -> ∀ v11, v11 = v5.snd.fst - goodT v5.snd.fst v8 -> ∀ v12, v12 = p -> ∀ v13, v13 = c -> ∀ v14, v14 = goodT v5.snd.fst v8 -> ∀ v15, v15 = decide (v14 < (0 : Int)) -> (v15 = true -> ∀ v16, v16 = decide (v5.snd.fst ≥ (0 : Int)) -> (v16 = false -> ∀ v17, v17 = decide (v14 > (0 : Int)) -> (v17 = true -> ∀ v18, v18 = decide (v5.snd.fst ≤ (0 : Int)) -> (v18 = false -> ∀ v19, v19 = IntKind.i64.wrap (v5.snd.fst - v14) -> ∀ v20, v20 = (v11 != v19) -> (v20 = false -> ∀ v21, v21 = IntKind.i64.wrap ((0 : Int) - v11) -> ∀ (v22 : Int), (v22 = if v21 > v11 then v21 else v11) -> ∀ v23, v23 = IntKind.i64.wrap ((0 : Int) - v5.snd.fst) -> ∀ (v24 : Int), (v24 = if v23 > v5.snd.fst then v23 else v5.snd.fst) -> ∀ v25, v25 = decide (v22 > v24) -> (v25 = true -> false = true) /\ (v25 = false -> ∀ v26, v26 = IntKind.i64.wrap ((0 : Int) - v14) -> ∀ (v27 : Int), (v27 = if v26 > v14 then v26 else v14) -> ∀ v28, v28 = IntKind.i64.wrap (v27 - (1 : Int)) -> ∀ v29, v29 = IntKind.i64.wrap (v28 * (1000000 : Int)) -> ∀ v30, v30 = IntKind.i64.wrap v7 -> ∀ v31, v31 = shlI IntKind.i64 v30 (32 : Int) -> ∀ v32, v32 = IntKind.i64.wrap ((500 : Int) * v31) -> ∀ v33, v33 = decide (v29 > v32) -> (v33 = true -> false = true) /\ (v33 = false -> ∀ v34, v34 = IntKind.i64.wrap (v5.snd.snd + v14) -> ∀ v35, v35 = IntKind.i64.wrap (v5.fst + (1 : Int)) -> ∃ (x36 : Int × Int × Int), (((0 : Int) ≤ x36.fst /\ x36.fst ≤ ln) /\ ((-549755813 : Int) ≤ x36.snd.fst /\ x36.snd.fst ≤ (549755813 : Int)) /\ x36.snd.snd + x36.snd.fst = w) /\ (((la = la /\ ln = ln /\ lc = lc) /\ True /\ false = false /\ True /\ v34 = x36.snd.snd /\ (la = la /\ ln = ln /\ lc = lc) /\ ln = ln /\ v35 = x36.fst /\ True) /\ (u = u /\ s = s /\ w = w /\ p = p /\ c = c /\ True) /\ (v9 = u /\ v10 = s /\ v11 = x36.snd.fst /\ v12 = p /\ v13 = c /\ True) /\ True) /\ (ln - x36.fst).toNat < (ln - v5.fst).toNat))) /\ (v20 = true -> false = true)) /\ (v18 = true -> false = true)) /\ (v17 = false -> ∀ v37, v37 = IntKind.i64.wrap (v5.snd.fst - v14) -> ∀ v38, v38 = (v11 != v37) -> (v38 = false -> ∀ v39, v39 = IntKind.i64.wrap ((0 : Int) - v11) -> ∀ (v40 : Int), (v40 = if v39 > v11 then v39 else v11) -> ∀ v41, v41 = IntKind.i64.wrap ((0 : Int) - v5.snd.fst) -> ∀ (v42 : Int), (v42 = if v41 > v5.snd.fst then v41 else v5.snd.fst) -> ∀ v43, v43 = decide (v40 > v42) -> (v43 = true -> false = true) /\ (v43 = false -> ∀ v44, v44 = IntKind.i64.wrap ((0 : Int) - v14) -> ∀ (v45 : Int), (v45 = if v44 > v14 then v44 else v14) -> ∀ v46, v46 = IntKind.i64.wrap (v45 - (1 : Int)) -> ∀ v47, v47 = IntKind.i64.wrap (v46 * (1000000 : Int)) -> ∀ v48, v48 = IntKind.i64.wrap v7 -> ∀ v49, v49 = shlI IntKind.i64 v48 (32 : Int) -> ∀ v50, v50 = IntKind.i64.wrap ((500 : Int) * v49) -> ∀ v51, v51 = decide (v47 > v50) -> (v51 = true -> false = true) /\ (v51 = false -> ∀ v52, v52 = IntKind.i64.wrap (v5.snd.snd + v14) -> ∀ v53, v53 = IntKind.i64.wrap (v5.fst + (1 : Int)) -> ∃ (x54 : Int × Int × Int), (((0 : Int) ≤ x54.fst /\ x54.fst ≤ ln) /\ ((-549755813 : Int) ≤ x54.snd.fst /\ x54.snd.fst ≤ (549755813 : Int)) /\ x54.snd.snd + x54.snd.fst = w) /\ (((la = la /\ ln = ln /\ lc = lc) /\ True /\ false = false /\ True /\ v52 = x54.snd.snd /\ (la = la /\ ln = ln /\ lc = lc) /\ ln = ln /\ v53 = x54.fst /\ True) /\ (u = u /\ s = s /\ w = w /\ p = p /\ c = c /\ True) /\ (v9 = u /\ v10 = s /\ v11 = x54.snd.fst /\ v12 = p /\ v13 = c /\ True) /\ True) /\ (ln - x54.fst).toNat < (ln - v5.fst).toNat))) /\ (v38 = true -> false = true))) /\ (v16 = true -> false = true)) /\ (v15 = false -> ∀ v55, v55 = decide (v14 > (0 : Int)) -> (v55 = true -> ∀ v56, v56 = decide (v5.snd.fst ≤ (0 : Int)) -> (v56 = false -> ∀ v57, v57 = IntKind.i64.wrap (v5.snd.fst - v14) -> ∀ v58, v58 = (v11 != v57) -> (v58 = false -> ∀ v59, v59 = IntKind.i64.wrap ((0 : Int) - v11) -> ∀ (v60 : Int), (v60 = if v59 > v11 then v59 else v11) -> ∀ v61, v61 = IntKind.i64.wrap ((0 : Int) - v5.snd.fst) -> ∀ (v62 : Int), (v62 = if v61 > v5.snd.fst then v61 else v5.snd.fst) -> ∀ v63, v63 = decide (v60 > v62) -> (v63 = true -> false = true) /\ (v63 = false -> ∀ v64, v64 = IntKind.i64.wrap ((0 : Int) - v14) -> ∀ (v65 : Int), (v65 = if v64 > v14 then v64 else v14) -> ∀ v66, v66 = IntKind.i64.wrap (v65 - (1 : Int)) -> ∀ v67, v67 = IntKind.i64.wrap (v66 * (1000000 : Int)) -> ∀ v68, v68 = IntKind.i64.wrap v7 -> ∀ v69, v69 = shlI IntKind.i64 v68 (32 : Int) -> ∀ v70, v70 = IntKind.i64.wrap ((500 : Int) * v69) -> ∀ v71, v71 = decide (v67 > v70) -> (v71 = true -> false = true) /\ (v71 = false -> ∀ v72, v72 = IntKind.i64.wrap (v5.snd.snd + v14) -> ∀ v73, v73 = IntKind.i64.wrap (v5.fst + (1 : Int)) -> ∃ (x74 : Int × Int × Int), (((0 : Int) ≤ x74.fst /\ x74.fst ≤ ln) /\ ((-549755813 : Int) ≤ x74.snd.fst /\ x74.snd.fst ≤ (549755813 : Int)) /\ x74.snd.snd + x74.snd.fst = w) /\ (((la = la /\ ln = ln /\ lc = lc) /\ True /\ false = false /\ True /\ v72 = x74.snd.snd /\ (la = la /\ ln = ln /\ lc = lc) /\ ln = ln /\ v73 = x74.fst /\ True) /\ (u = u /\ s = s /\ w = w /\ p = p /\ c = c /\ True) /\ (v9 = u /\ v10 = s /\ v11 = x74.snd.fst /\ v12 = p /\ v13 = c /\ True) /\ True) /\ (ln - x74.fst).toNat < (ln - v5.fst).toNat))) /\ (v58 = true -> false = true)) /\ (v56 = true -> false = true)) /\ (v55 = false -> ∀ v75, v75 = IntKind.i64.wrap (v5.snd.fst - v14) -> ∀ v76, v76 = (v11 != v75) -> (v76 = false -> ∀ v77, v77 = IntKind.i64.wrap ((0 : Int) - v11) -> ∀ (v78 : Int), (v78 = if v77 > v11 then v77 else v11) -> ∀ v79, v79 = IntKind.i64.wrap ((0 : Int) - v5.snd.fst) -> ∀ (v80 : Int), (v80 = if v79 > v5.snd.fst then v79 else v5.snd.fst) -> ∀ v81, v81 = decide (v78 > v80) -> (v81 = true -> false = true) /\ (v81 = false -> ∀ v82, v82 = IntKind.i64.wrap ((0 : Int) - v14) -> ∀ (v83 : Int), (v83 = if v82 > v14 then v82 else v14) -> ∀ v84, v84 = IntKind.i64.wrap (v83 - (1 : Int)) -> ∀ v85, v85 = IntKind.i64.wrap (v84 * (1000000 : Int)) -> ∀ v86, v86 = IntKind.i64.wrap v7 -> ∀ v87, v87 = shlI IntKind.i64 v86 (32 : Int) -> ∀ v88, v88 = IntKind.i64.wrap ((500 : Int) * v87) -> ∀ v89, v89 = decide (v85 > v88) -> (v89 = true -> false = true) /\ (v89 = false -> ∀ v90, v90 = IntKind.i64.wrap (v5.snd.snd + v14) -> ∀ v91, v91 = IntKind.i64.wrap (v5.fst + (1 : Int)) -> ∃ (x92 : Int × Int × Int), (((0 : Int) ≤ x92.fst /\ x92.fst ≤ ln) /\ ((-549755813 : Int) ≤ x92.snd.fst /\ x92.snd.fst ≤ (549755813 : Int)) /\ x92.snd.snd + x92.snd.fst = w) /\ (((la = la /\ ln = ln /\ lc = lc) /\ True /\ false = false /\ True /\ v90 = x92.snd.snd /\ (la = la /\ ln = ln /\ lc = lc) /\ ln = ln /\ v91 = x92.fst /\ True) /\ (u = u /\ s = s /\ w = w /\ p = p /\ c = c /\ True) /\ (v9 = u /\ v10 = s /\ v11 = x92.snd.fst /\ v12 = p /\ v13 = c /\ True) /\ True) /\ (ln - x92.fst).toNat < (ln - v5.fst).toNat))) /\ (v76 = true -> false = true)))) /\ (v6 = false -> (I64 u /\ I64 s /\ I64 w /\ I64 p /\ I64 c /\ fitF u s w p c = true) /\ ∀ v93, v93 = leftF w -> (I64 u /\ I64 s /\ I64 w /\ I64 p /\ I64 c /\ I64 v93 /\ fitF u s w p c = true) /\ ∀ v94, v94 = u -> ∀ v95, v95 = s -> ∀ v96, v96 = w - goodT w v93 -> ∀ v97, v97 = p -> ∀ v98, v98 = c -> ∀ v99, v99 = goodT w v93 -> ∀ v100, v100 = IntKind.i64.wrap (v93 - (1 : Int)) -> (I64 u /\ I64 s /\ I64 w /\ I64 p /\ I64 c /\ I64 v100 /\ fitF u s w p c = true) /\ ∀ v101, v101 = u -> ∀ v102, v102 = s -> ∀ v103, v103 = w - goodT w v100 -> ∀ v104, v104 = p -> ∀ v105, v105 = c -> ∀ v106, v106 = goodT w v100 -> ∀ v107, v107 = IntKind.i64.wrap (v5.snd.snd + v5.snd.fst) -> ∀ v108, v108 = (v107 == w) -> (v108 = true -> ∀ v109, v109 = (v96 == (0 : Int)) -> (v109 = true -> ∀ v110, v110 = (v93 == (0 : Int)) -> ∀ v111, v111 = (w == (0 : Int)) -> ∀ v112, v112 = (v110 == v111) -> (v112 = true -> ∀ v113, v113 = (v93 == (0 : Int)) -> (v113 = false -> ∀ v114, v114 = (v103 != (0 : Int)) -> (v114 = true -> True /\ true = true) /\ (v114 = false -> false = true)) /\ (v113 = true -> True /\ true = true)) /\ (v112 = false -> false = true)) /\ (v109 = false -> false = true)) /\ (v108 = false -> false = true)))) /\ (v2 = true -> True /\ true = true)
theorem tieDiscSlowly (w0 : World) (u : Int) (s : Int) (w : Int) (p : Int) (c : Int) (la : Addr) (ln : Int) (lc : Nat) (g : Int → Int) : VCDiscSlowly w0 u s w p c la ln lc g = ((recN (GL Try.prog slowSpec slowAnnSpec slowCutSpec w0) 40).call 3 [.agg [.int .i64 (.sym u), .int .i64 (.sym s), .int .i64 (.sym w), .int .i64 (.sym p), .int .i64 (.sym c)], .bsl la ln lc [.int .u16 g]] [] (fun v _ => isTrue v)) := by kernel_rfl
theorem pureDiscSlowly (w0 : World) (u s w p c : Int) (la : Addr) (ln : Int) (lc : Nat) (g : Int → Int) (h : I64 u ∧ I64 s ∧ I64 w ∧ I64 p ∧ I64 c ∧ (0 ≤ ln ∧ ln ≤ lc) ∧ lc ≤ Go.maxLen ∧ (∀ i : Int, 0 ≤ i → i < ln → BaseAt w0 la [.int .u16 g] i) ∧ ∀ i, U16 (g i)) : VCDiscSlowly w0 u s w p c la ln lc g := by
  obtain ⟨hu, hs, hw, hp, hc, ⟨n0, n1⟩, _, hb, hG⟩ := h
  unfold VCDiscSlowly
  refine ⟨⟨hu, hs, hw, hp, hc⟩, fun v1 h1 v2 h2 => ⟨fun z => ⟨n0, br (fun _ => ⟨trivial, rfl⟩) (fun n50 => ⟨n0, ?_⟩)⟩, fun _ => ⟨trivial, rfl⟩⟩⟩
  have hg : fitF u s w p c = true := by rw [← h1]; rw [h2] at z; simpa using z
  have hf := hg
  rw [fit_iff] at hf
  obtain ⟨e1, e2, e3, e4⟩ := end_facts hf.2.2.1.1 hf.2.2.1.2
  refine ⟨⟨(0, w, 0), ⟨⟨by dsimp only; omega, by dsimp only; omega⟩, ⟨by dsimp only; omega, by dsimp only; omega⟩, by dsimp only; omega⟩, by simp⟩, ?_⟩
  rintro ⟨i, y, sm⟩ ⟨⟨i0, i1⟩, ⟨y0, y1⟩, hs0⟩
  dsimp only at i0 i1 y0 y1 hs0 ⊢
  have w1 : IntKind.i64.wrap (leftF w - 1) = leftF w - 1 := i64_id (by omega) (by omega)
  have w2 : IntKind.i64.wrap (sm + y) = w := by rw [hs0]; exact i64_id (by omega) (by omega)
  have a1 : I64 (leftF w) := by unfold I64; omega
  have a2 : I64 (leftF w - 1) := by unfold I64; omega
  refine br (fun ci => ?_) (fun _ => ?_)
  · have hk : 0 ≤ g i ∧ g i ≤ 65535 := hG i
    have hg2 : fitF u s y p c = true := by rw [fit_iff]; omega
    obtain ⟨f1, f2, f3, f4⟩ := good_facts hk.1 hk.2 y0 y1
    have k1 : IntKind.i64.wrap (g i) = g i := i64_id (by omega) (by omega)
    have iy : I64 y := by unfold I64; omega
    have ik : I64 (g i) := by unfold I64; omega
    refine ⟨⟨i0, ci⟩, hb i i0 ci, ?_⟩
    intro v7 h7 v8 h8
    rw [h7, k1] at h8
    subst h7; subst h8
    refine ⟨⟨hu, hs, iy, hp, hc, ik, hg2⟩, ?_⟩
    intro v9 h9 v10 h10 v11 h11 v12 h12 v13 h13 v14 h14
    rw [← h14] at f1 f2 f3 f4 h11
    have k2 : IntKind.i64.wrap (y - v14) = y - v14 := i64_id (by omega) (by omega)
    subst h9; subst h10; subst h11; subst h12; subst h13
    have k3 : IntKind.i64.wrap (0 - (y - v14)) = 0 - (y - v14) := i64_id (by omega) (by omega)
    have k4 : IntKind.i64.wrap (0 - y) = 0 - y := i64_id (by omega) (by omega)
    have k5 : IntKind.i64.wrap (0 - v14) = 0 - v14 := i64_id (by omega) (by omega)
    have k6 : shlI .i64 (g i) 32 = g i * 4294967296 := by rw [shl32i]; exact i64_id (by omega) (by omega)
    have k7 : IntKind.i64.wrap (500 * (g i * 4294967296)) = 500 * (g i * 4294967296) := i64_id (by omega) (by omega)
    have k8 : IntKind.i64.wrap (sm + v14) = sm + v14 := i64_id (by omega) (by omega)
    have k9 : IntKind.i64.wrap (i + 1) = i + 1 := i64_id (by omega) (by omega)
    have k10 : IntKind.i64.wrap (max (0 - v14) v14 - 1) = max (0 - v14) v14 - 1 := i64_id (by omega) (by omega)
    have k11 : IntKind.i64.wrap ((max (0 - v14) v14 - 1) * 1000000) = (max (0 - v14) v14 - 1) * 1000000 := i64_id (by omega) (by omega)
    clear hu hs hw hp hc hg hf e1 e2 e3 e4 w1 w2 a1 a2 hb hG hg2 iy ik
    simp only [forall_eq, ite_max, k1, k2, k3, k4, k5, k6, k7, k8, k9, k10, k11, decide_eq_true_eq, decide_eq_false_iff_not, bne_self_eq_false, Bool.false_eq_true, false_implies, and_true, true_implies, reduceCtorEq, forall_const]
    repeat' (first | apply And.intro | intro _)
    all_goals first
      | omega
      | exact ⟨(i + 1, y - v14, sm + v14), by simp; omega⟩
  · refine ⟨⟨hu, hs, hw, hp, hc, hg⟩, fun v6 h6 => ⟨⟨hu, hs, hw, hp, hc, by rw [h6]; exact a1, hg⟩, fun v7 _ v8 _ v9 h9 v10 _ v11 _ v12 _ v13 h13 => ⟨⟨hu, hs, hw, hp, hc, by rw [h13, h6, w1]; exact a2, hg⟩, fun v14 _ v15 _ v16 h16 v17 _ v18 _ v19 _ v20 h20 => brE (fun _ => brE (fun _ => ?_) (fun q => absurd (by rw [h9, h6]; exact e2) q)) (fun q => absurd (by rw [h20, w2]) q)⟩⟩⟩
    intro v23 h23 v24 h24 v25 h25
    have t25 : v25 = true := by
      rw [h25, h23, h24, h6]
      by_cases z0 : w = 0
      · rw [e3.2 z0, z0]; rfl
      · have l0 : leftF w ≠ 0 := fun q => z0 (e3.1 q)
        rw [beq_eq_false_iff_ne.2 z0, beq_eq_false_iff_ne.2 l0]; rfl
    refine ⟨fun _ => rbE (fun q => brN (fun _ => ⟨trivial, rfl⟩) (fun q2 => absurd q2 ?_)) (fun _ => ⟨trivial, rfl⟩), fun q => absurd (t25.symm.trans q) (by decide)⟩
    rw [h16, h13, h6, w1]
    exact e4 (by rwa [h6] at q)
theorem walkDiscSlowly (u : Int) (s : Int) (w : Int) (p : Int) (c : Int) (la : Addr) (ln : Int) (lc : Nat) (g : Int → Int) (w0 : World) (hu : (Lit.int .i64 u).wf = true) (hs : (Lit.int .i64 s).wf = true) (hw : (Lit.int .i64 w).wf = true) (hp : (Lit.int .i64 p).wf = true) (hc : (Lit.int .i64 c).wf = true) (hl : 0 ≤ ln ∧ ln ≤ lc) (hlm : lc ≤ Go.maxLen) (hlb : ∀ i : Int, 0 ≤ i → i < ln → BaseAt w0 la [.int .u16 g] i) (hg : ∀ i, (Lit.int .u16 (g i)).wf = true) : Calls Try.prog 3 #[.agg #[.int .i64 u, .int .i64 s, .int .i64 w, .int .i64 p, .int .i64 c], .slice (some la) ln.toNat lc] w0 fun e w' => e = .returned (.bool true) ∧ Below w0.heap.size w0 w' :=
  law_tie (G := GL Try.prog slowSpec slowAnnSpec slowCutSpec w0) (gokL w0 namesOk_ mixed_ slow_ok) (n := 40) (f := 3) (args := [.agg [.int .i64 (.sym u), .int .i64 (.sym s), .int .i64 (.sym w), .int .i64 (.sym p), .int .i64 (.sym c)], .bsl la ln lc [.int .u16 g]]) (by kernel_rfl) (VCDiscSlowly w0 u s w p c la ln lc g) (tieDiscSlowly w0 u s w p c la ln lc g) (pureDiscSlowly w0 u s w p c la ln lc g ⟨wf_i64 hu, wf_i64 hs, wf_i64 hw, wf_i64 hp, wf_i64 hc, hl, hlm, hlb, fun i => wf_u16 (hg i)⟩)

end Go.Proofs.Ythnfbhkfcejjgaa.D
