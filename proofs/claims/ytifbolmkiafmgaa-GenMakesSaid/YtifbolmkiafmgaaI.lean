import Derived.Test.YtifbolmkiafmgaaSxR
import Derived.Test.YtifbolmkiafmgaaSxU
import Derived.Test.YtifbolmkiafmgaaProg
import Derived.Test.YtifbolmkiafmgaaH
import Derived.KernelRfl
namespace Go.Proofs.Ytifbolmkiafmgaa.A
open Go Go.Sx Go.RowKit
set_option linter.unusedVariables false
set_option maxRecDepth 100000
def gmSpec : List (FuncId × CSpec) := [(7, mixSpec), (8, rMixSpec), (9, numSpec), (10, rNumSpec), (17, awakeSpec)]
theorem gm_ok : SpecsOk Try.prog gmSpec := ⟨mix_ok, rMix_ok, num_ok, rNum_ok, awake_ok, trivial⟩
def gmFSpec : List (FuncId × CSpec) := [(11, spansSpec), (12, withNil sameSpec sameNSpec)]
theorem gmF_ok : SpecsOkF Try.prog gmFSpec := ⟨spans_ok, withNil_ok same_ok sameN_ok, trivial⟩
def gmRSpec : List (FuncId × RSpec) := [(5, clocksSpec), (6, rClocksSpec), (15, honestSpec), (16, rHonestSpec), (13, movesSpec), (14, rMovesSpec)]
theorem gmR_ok : SpecsOkR Try.prog gmRSpec := ⟨clocks_ok, rClocks_ok, honest_ok, rHonest_ok, moves_ok, rMoves_ok, trivial⟩
def gmbRSpec : List (FuncId × RSpec) := [(5, clocksSpec), (6, rClocksSpec), (15, honestSpec), (16, rHonestSpec)]
theorem gmbR_ok : SpecsOkR Try.prog gmbRSpec := ⟨clocks_ok, rClocks_ok, honest_ok, rHonest_ok, trivial⟩
def gmFixSpec : Fixs := [(13, 13, false), (14, 12, false)]
--@PLAIN
theorem ee {a b : Int} {A B : Prop} (e : a = b) (hA : A) : ∀ v : Bool, v = (a == b) → (v = true → A) ∧ (v = false → B) := by
  rintro _ rfl
  subst e
  simp [hA]
theorem off {a b : Int} {A : Prop} (e : ¬ a < b) (hA : A) : ∀ v : Bool, v = decide (a < b) → v = false ∧ A := by
  rintro _ rfl
  exact ⟨decide_eq_false e, hA⟩
theorem hoS_in (n : Int) : 1 ≤ hoS n ∧ hoS n ≤ 3 := by unfold hoS; omega
theorem hoD_in (n : Int) : 0 ≤ hoD n ∧ hoD n ≤ 4 := by unfold hoD; omega
--@WHYP GenMakes_a hc : 1 ≤ n
def VCGenMakes_a (s : Int) (q : Int) (n : Int) (r : Int) (w : Int) : Prop :=
  U64 s /\ ∀ (v1 : Int), v1 = (1 : Int) + numF s (1 : Int) % (3 : Int) -> ∀ (v2 : Int -> Int), v2 = clkN s (3 : Int) -> ∀ (v3 : Int), v3 = (1 : Int) + numF s (2 : Int) % (2 : Int) -> ∀ (v4 : Int -> Int), v4 = clkN s (10 : Int) -> U64 s /\ ∀ (v5 : Int), v5 = (1 : Int) + numF s (1 : Int) % (3 : Int) -> ∀ (v6 : Int -> Int), v6 = clkN s (3 : Int) -> ∀ (v7 : Int), v7 = (1 : Int) + numF s (2 : Int) % (2 : Int) -> ∀ (v8 : Int -> Int), v8 = clkN s (10 : Int) -> U64 s /\ ∀ v9, v9 = mixF s -> U64 s /\ ∀ v10, v10 = mixF s -> ∀ v11, v11 = (v9 == v10) -> (v11 = true -> (U64 s /\ I64 q) /\ ∀ v12, v12 = numF s q -> (U64 s /\ I64 q) /\ ∀ v13, v13 = numF s q -> ∀ v14, v14 = (v12 == v13) -> (v14 = true -> ((0 : Int) ≤ v1 /\ v1 ≤ v1) /\ ((0 : Int) ≤ v5 /\ v5 ≤ v5) /\ (v5 = v1 /\ ((0 : Int) ≤ v1 /\ v1 ≤ (1000 : Int)) /\ ∀ (v15 : Int), (0 : Int) ≤ v15 -> v15 < v1 -> v2 v15 = v6 v15) /\ ((0 : Int) ≤ v3 /\ v3 ≤ v3) /\ ((0 : Int) ≤ v7 /\ v7 ≤ v7) /\ (v7 = v3 /\ ((0 : Int) ≤ v3 /\ v3 ≤ (1000 : Int)) /\ ∀ (v16 : Int), (0 : Int) ≤ v16 -> v16 < v3 -> v4 v16 = v8 v16) /\ (U64 s /\ I64 n /\ (1 : Int) ≤ n) /\ ∀ v17, v17 = cntF n -> ∀ (v18 : Int -> Int), v18 = mvK s -> ∀ (v19 : Int -> Int), v19 = mvA s -> ∀ (v20 : Int -> Int), v20 = mvB s -> ∀ (v21 : Int -> Int), v21 = mvP s -> ∀ (v22 : Int -> Int), v22 = mvN s -> ∀ (v23 : Int -> ByteArray), v23 = mvT s -> ∀ (v24 : Int -> Int), v24 = mvO s -> (U64 s /\ I64 n /\ (1 : Int) ≤ n) /\ ∀ v25, v25 = cntF n -> ∀ (v26 : Int -> Int), v26 = mvK s -> ∀ (v27 : Int -> Int), v27 = mvA s -> ∀ (v28 : Int -> Int), v28 = mvB s -> ∀ (v29 : Int -> Int), v29 = mvP s -> ∀ (v30 : Int -> Int), v30 = mvN s -> ∀ (v31 : Int -> ByteArray), v31 = mvT s -> ∀ (v32 : Int -> Int), v32 = mvO s -> ((0 : Int) ≤ v17 /\ v17 ≤ v17) /\ ((0 : Int) ≤ v25 /\ v25 ≤ v25) /\ (v25 = v17 /\ ((0 : Int) ≤ v17 /\ v17 ≤ (1000 : Int)) /\ ∀ (v33 : Int), (0 : Int) ≤ v33 -> v33 < v17 -> v18 v33 = v26 v33 /\ v19 v33 = v27 v33 /\ v20 v33 = v28 v33 /\ v21 v33 = v29 v33 /\ v22 v33 = v30 v33 /\ v23 v33 = v31 v33 /\ v24 v33 = v32 v33) /\ (I64 n /\ I64 r /\ I64 w) /\ ∀ v34, v34 = hoN (hoS n) (hoD r) -> ∀ (v35 : Int -> Int), v35 = hoK (hoS n) -> ∀ (v36 : Int -> Int), v36 = hoZ -> ∀ (v37 : Int -> Int), v37 = hoB (hoS n) -> ∀ (v38 : Int -> Int), v38 = hoP (hoS n) -> ∀ (v39 : Int -> Int), v39 = hoV (hoS n) (hoW w) -> ∀ (v40 : Int -> ByteArray), v40 = hoT -> ∀ (v41 : Int -> Int), v41 = hoZ -> (I64 n /\ I64 r /\ I64 w) /\ ∀ v42, v42 = hoN (hoS n) (hoD r) -> ∀ (v43 : Int -> Int), v43 = hoK (hoS n) -> ∀ (v44 : Int -> Int), v44 = hoZ -> ∀ (v45 : Int -> Int), v45 = hoB (hoS n) -> ∀ (v46 : Int -> Int), v46 = hoP (hoS n) -> ∀ (v47 : Int -> Int), v47 = hoV (hoS n) (hoW w) -> ∀ (v48 : Int -> ByteArray), v48 = hoT -> ∀ (v49 : Int -> Int), v49 = hoZ -> ((0 : Int) ≤ v34 /\ v34 ≤ v34) /\ ((0 : Int) ≤ v42 /\ v42 ≤ v42) /\ (v42 = v34 /\ ((0 : Int) ≤ v34 /\ v34 ≤ (1000 : Int)) /\ ∀ (v50 : Int), (0 : Int) ≤ v50 -> v50 < v34 -> v35 v50 = v43 v50 /\ v36 v50 = v44 v50 /\ v37 v50 = v45 v50 /\ v38 v50 = v46 v50 /\ v39 v50 = v47 v50 /\ v40 v50 = v48 v50 /\ v41 v50 = v49 v50) /\ True /\ true = true) /\ (v14 = false -> false = true)) /\ (v11 = false -> false = true)
theorem tieGenMakes_a (w0 : World) (s : Int) (q : Int) (n : Int) (r : Int) (w : Int) : VCGenMakes_a s q n r w = ((recN (GR Try.prog gmSpec [] gmFSpec gmRSpec [] [] [] [] [] [] w0) 60).call 3 [.int .u64 (.sym s), .int .i64 (.sym q), .int .i64 (.sym n), .int .i64 (.sym r), .int .i64 (.sym w)] [] (fun v _ => isTrue v)) := by kernel_rfl
theorem pureGenMakes_a (w0 : World) (s q n r w : Int) (h : U64 s ∧ I64 q ∧ I64 n ∧ I64 r ∧ I64 w ∧ 1 ≤ n) : VCGenMakes_a s q n r w := by
  obtain ⟨hs, hq, hn, hr, hw, n1⟩ := h
  have u1 := num_in s 1
  have u2 := num_in s 2
  have hN := hoN_in (hoS_in n) (hoD_in r)
  have hI := hoS_in n
  refine ⟨hs, ?_⟩
  rintro _ rfl _ rfl _ rfl _ rfl
  refine ⟨hs, ?_⟩
  rintro _ rfl _ rfl _ rfl _ rfl
  refine ⟨hs, ?_⟩
  rintro _ rfl
  refine ⟨hs, ?_⟩
  rintro _ rfl
  refine ee rfl ⟨⟨hs, hq⟩, ?_⟩
  rintro _ rfl
  refine ⟨⟨hs, hq⟩, ?_⟩
  rintro _ rfl
  refine ee rfl ⟨⟨by omega, by omega⟩, ⟨by omega, by omega⟩, ⟨rfl, ⟨by omega, by omega⟩, fun j _ _ => rfl⟩, ⟨by omega, by omega⟩, ⟨by omega, by omega⟩, ⟨rfl, ⟨by omega, by omega⟩, fun j _ _ => rfl⟩, ?_⟩
  have hc := cnt_in n1
  refine ⟨⟨hs, hn, n1⟩, ?_⟩
  rintro _ rfl _ rfl _ rfl _ rfl _ rfl _ rfl _ rfl _ rfl
  refine ⟨⟨hs, hn, n1⟩, ?_⟩
  rintro _ rfl _ rfl _ rfl _ rfl _ rfl _ rfl _ rfl _ rfl
  refine ⟨⟨by omega, by omega⟩, ⟨by omega, by omega⟩, ⟨rfl, ⟨by omega, by omega⟩, fun j _ _ => ⟨rfl, rfl, rfl, rfl, rfl, rfl, rfl⟩⟩, ?_⟩
  refine ⟨⟨hn, hr, hw⟩, ?_⟩
  rintro _ rfl _ rfl _ rfl _ rfl _ rfl _ rfl _ rfl _ rfl
  refine ⟨⟨hn, hr, hw⟩, ?_⟩
  rintro _ rfl _ rfl _ rfl _ rfl _ rfl _ rfl _ rfl _ rfl
  exact ⟨⟨by omega, by omega⟩, ⟨by omega, by omega⟩, ⟨rfl, ⟨by omega, by omega⟩, fun j _ _ => ⟨rfl, rfl, rfl, rfl, rfl, rfl, rfl⟩⟩, trivial, rfl⟩
theorem walkGenMakes_a (s : Int) (q : Int) (n : Int) (r : Int) (w : Int) (w0 : World) (hs : (Lit.int .u64 s).wf = true) (hq : (Lit.int .i64 q).wf = true) (hn : (Lit.int .i64 n).wf = true) (hr : (Lit.int .i64 r).wf = true) (hw : (Lit.int .i64 w).wf = true) (hc : 1 ≤ n) : Calls Try.prog 3 #[.int .u64 s, .int .i64 q, .int .i64 n, .int .i64 r, .int .i64 w] w0 fun e w' => e = .returned (.bool true) ∧ Below w0.heap.size w0 w' :=
  law_tie (G := GR Try.prog gmSpec [] gmFSpec gmRSpec [] [] [] [] [] [] w0) (gokR w0 namesOk_ mixed_ gm_ok trivial gmF_ok gmR_ok) (n := 60) (f := 3) (args := [.int .u64 (.sym s), .int .i64 (.sym q), .int .i64 (.sym n), .int .i64 (.sym r), .int .i64 (.sym w)]) (by kernel_rfl) (VCGenMakes_a s q n r w) (tieGenMakes_a w0 s q n r w) (pureGenMakes_a w0 s q n r w ⟨wf_u64 hs, wf_i64 hq, wf_i64 hn, wf_i64 hr, wf_i64 hw, hc⟩)

--@WHYP GenMakes_b hc : n ≤ 0
def VCGenMakes_b (s : Int) (q : Int) (n : Int) (r : Int) (w : Int) : Prop :=
  U64 s /\ ∀ (v1 : Int), v1 = (1 : Int) + numF s (1 : Int) % (3 : Int) -> ∀ (v2 : Int -> Int), v2 = clkN s (3 : Int) -> ∀ (v3 : Int), v3 = (1 : Int) + numF s (2 : Int) % (2 : Int) -> ∀ (v4 : Int -> Int), v4 = clkN s (10 : Int) -> U64 s /\ ∀ (v5 : Int), v5 = (1 : Int) + numF s (1 : Int) % (3 : Int) -> ∀ (v6 : Int -> Int), v6 = clkN s (3 : Int) -> ∀ (v7 : Int), v7 = (1 : Int) + numF s (2 : Int) % (2 : Int) -> ∀ (v8 : Int -> Int), v8 = clkN s (10 : Int) -> U64 s /\ ∀ v9, v9 = mixF s -> U64 s /\ ∀ v10, v10 = mixF s -> ∀ v11, v11 = (v9 == v10) -> (v11 = true -> (U64 s /\ I64 q) /\ ∀ v12, v12 = numF s q -> (U64 s /\ I64 q) /\ ∀ v13, v13 = numF s q -> ∀ v14, v14 = (v12 == v13) -> (v14 = true -> ((0 : Int) ≤ v1 /\ v1 ≤ v1) /\ ((0 : Int) ≤ v5 /\ v5 ≤ v5) /\ (v5 = v1 /\ ((0 : Int) ≤ v1 /\ v1 ≤ (1000 : Int)) /\ ∀ (v15 : Int), (0 : Int) ≤ v15 -> v15 < v1 -> v2 v15 = v6 v15) /\ ((0 : Int) ≤ v3 /\ v3 ≤ v3) /\ ((0 : Int) ≤ v7 /\ v7 ≤ v7) /\ (v7 = v3 /\ ((0 : Int) ≤ v3 /\ v3 ≤ (1000 : Int)) /\ ∀ (v16 : Int), (0 : Int) ≤ v16 -> v16 < v3 -> v4 v16 = v8 v16) /\ ∀ (v17 : Int), (v17 = if (0 : Int) > n then (0 : Int) else n) -> ∀ (v18 : Int), (v18 = if (64 : Int) < v17 then (64 : Int) else v17) -> ∀ v19, v19 = decide ((0 : Int) < v18) -> v19 = false /\ ∀ v20, v20 = decide ((0 : Int) < n) -> v20 = false /\ True /\ (I64 n /\ I64 r /\ I64 w) /\ ∀ v21, v21 = hoN (hoS n) (hoD r) -> ∀ (v22 : Int -> Int), v22 = hoK (hoS n) -> ∀ (v23 : Int -> Int), v23 = hoZ -> ∀ (v24 : Int -> Int), v24 = hoB (hoS n) -> ∀ (v25 : Int -> Int), v25 = hoP (hoS n) -> ∀ (v26 : Int -> Int), v26 = hoV (hoS n) (hoW w) -> ∀ (v27 : Int -> ByteArray), v27 = hoT -> ∀ (v28 : Int -> Int), v28 = hoZ -> (I64 n /\ I64 r /\ I64 w) /\ ∀ v29, v29 = hoN (hoS n) (hoD r) -> ∀ (v30 : Int -> Int), v30 = hoK (hoS n) -> ∀ (v31 : Int -> Int), v31 = hoZ -> ∀ (v32 : Int -> Int), v32 = hoB (hoS n) -> ∀ (v33 : Int -> Int), v33 = hoP (hoS n) -> ∀ (v34 : Int -> Int), v34 = hoV (hoS n) (hoW w) -> ∀ (v35 : Int -> ByteArray), v35 = hoT -> ∀ (v36 : Int -> Int), v36 = hoZ -> ((0 : Int) ≤ v21 /\ v21 ≤ v21) /\ ((0 : Int) ≤ v29 /\ v29 ≤ v29) /\ (v29 = v21 /\ ((0 : Int) ≤ v21 /\ v21 ≤ (1000 : Int)) /\ ∀ (v37 : Int), (0 : Int) ≤ v37 -> v37 < v21 -> v22 v37 = v30 v37 /\ v23 v37 = v31 v37 /\ v24 v37 = v32 v37 /\ v25 v37 = v33 v37 /\ v26 v37 = v34 v37 /\ v27 v37 = v35 v37 /\ v28 v37 = v36 v37) /\ True /\ true = true) /\ (v14 = false -> false = true)) /\ (v11 = false -> false = true)
theorem tieGenMakes_b (w0 : World) (s : Int) (q : Int) (n : Int) (r : Int) (w : Int) : VCGenMakes_b s q n r w = ((recN (GR Try.prog gmSpec [] gmFSpec gmbRSpec [] [] [] [] gmFixSpec [] w0) 60).call 3 [.int .u64 (.sym s), .int .i64 (.sym q), .int .i64 (.sym n), .int .i64 (.sym r), .int .i64 (.sym w)] [] (fun v _ => isTrue v)) := by kernel_rfl
theorem pureGenMakes_b (w0 : World) (s q n r w : Int) (h : U64 s ∧ I64 q ∧ I64 n ∧ I64 r ∧ I64 w ∧ n ≤ 0) : VCGenMakes_b s q n r w := by
  obtain ⟨hs, hq, hn, hr, hw, n1⟩ := h
  have u1 := num_in s 1
  have u2 := num_in s 2
  have hN := hoN_in (hoS_in n) (hoD_in r)
  have hI := hoS_in n
  refine ⟨hs, ?_⟩
  rintro _ rfl _ rfl _ rfl _ rfl
  refine ⟨hs, ?_⟩
  rintro _ rfl _ rfl _ rfl _ rfl
  refine ⟨hs, ?_⟩
  rintro _ rfl
  refine ⟨hs, ?_⟩
  rintro _ rfl
  refine ee rfl ⟨⟨hs, hq⟩, ?_⟩
  rintro _ rfl
  refine ⟨⟨hs, hq⟩, ?_⟩
  rintro _ rfl
  refine ee rfl ⟨⟨by omega, by omega⟩, ⟨by omega, by omega⟩, ⟨rfl, ⟨by omega, by omega⟩, fun j _ _ => rfl⟩, ⟨by omega, by omega⟩, ⟨by omega, by omega⟩, ⟨rfl, ⟨by omega, by omega⟩, fun j _ _ => rfl⟩, ?_⟩
  intro v17 h17 v18 h18
  refine off (by omega) (off (by omega) ⟨trivial, ?_⟩)
  refine ⟨⟨hn, hr, hw⟩, ?_⟩
  rintro _ rfl _ rfl _ rfl _ rfl _ rfl _ rfl _ rfl _ rfl
  refine ⟨⟨hn, hr, hw⟩, ?_⟩
  rintro _ rfl _ rfl _ rfl _ rfl _ rfl _ rfl _ rfl _ rfl
  exact ⟨⟨by omega, by omega⟩, ⟨by omega, by omega⟩, ⟨rfl, ⟨by omega, by omega⟩, fun j _ _ => ⟨rfl, rfl, rfl, rfl, rfl, rfl, rfl⟩⟩, trivial, rfl⟩
theorem walkGenMakes_b (s : Int) (q : Int) (n : Int) (r : Int) (w : Int) (w0 : World) (hs : (Lit.int .u64 s).wf = true) (hq : (Lit.int .i64 q).wf = true) (hn : (Lit.int .i64 n).wf = true) (hr : (Lit.int .i64 r).wf = true) (hw : (Lit.int .i64 w).wf = true) (hc : n ≤ 0) : Calls Try.prog 3 #[.int .u64 s, .int .i64 q, .int .i64 n, .int .i64 r, .int .i64 w] w0 fun e w' => e = .returned (.bool true) ∧ Below w0.heap.size w0 w' :=
  law_tie (G := GR Try.prog gmSpec [] gmFSpec gmbRSpec [] [] [] [] gmFixSpec [] w0) (gokR w0 namesOk_ mixed_ gm_ok trivial gmF_ok gmbR_ok) (n := 60) (f := 3) (args := [.int .u64 (.sym s), .int .i64 (.sym q), .int .i64 (.sym n), .int .i64 (.sym r), .int .i64 (.sym w)]) (by kernel_rfl) (VCGenMakes_b s q n r w) (tieGenMakes_b w0 s q n r w) (pureGenMakes_b w0 s q n r w ⟨wf_u64 hs, wf_i64 hq, wf_i64 hn, wf_i64 hr, wf_i64 hw, hc⟩)

theorem walkGenMakes (s : Int) (q : Int) (n : Int) (r : Int) (w : Int) (w0 : World) (hs : (Lit.int .u64 s).wf = true) (hq : (Lit.int .i64 q).wf = true) (hn : (Lit.int .i64 n).wf = true) (hr : (Lit.int .i64 r).wf = true) (hw : (Lit.int .i64 w).wf = true) : Calls Try.prog 3 #[.int .u64 s, .int .i64 q, .int .i64 n, .int .i64 r, .int .i64 w] w0 fun e w' => e = .returned (.bool true) ∧ Below w0.heap.size w0 w' := by
  by_cases hc : 1 ≤ n
  · exact walkGenMakes_a s q n r w w0 hs hq hn hr hw hc
  · exact walkGenMakes_b s q n r w w0 hs hq hn hr hw (by omega)
end Go.Proofs.Ytifbolmkiafmgaa.A
