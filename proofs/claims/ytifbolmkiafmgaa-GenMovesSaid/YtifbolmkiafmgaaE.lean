import Derived.Test.YtifbolmkiafmgaaSxR
import Derived.Test.YtifbolmkiafmgaaSxU
import Derived.Test.YtifbolmkiafmgaaProg
import Derived.Test.YtifbolmkiafmgaaD
import Derived.KernelRfl
namespace Go.Proofs.Ytifbolmkiafmgaa.A
open Go Go.Sx Go.RowKit
set_option linter.unusedVariables false
set_option maxRecDepth 100000
def xS (s i : Int) : Int := mixF (IntKind.u64.wrap (s + IntKind.u64.wrap i))
def mvK (s : Int) : Int → Int := fun i => 1 + numF (xS s i) 1 % 11
def mvA (s : Int) : Int → Int := fun i => numF (xS s i) 2 % 2
def mvB (s : Int) : Int → Int := fun i => numF (xS s i) 3 % 3
def mvP (s : Int) : Int → Int := fun i => numF (xS s i) 4 % (i + 1)
def mvN (s : Int) : Int → Int := fun i => numF (xS s i) 5 % 8589934592
def mvT (s : Int) : Int → ByteArray := fun i => if numF (xS s i) 6 % 4 = 0 then mkBytes [numF (xS s i) 7 % 256] else bytesL []
def mvO (s : Int) : Int → Int := fun i => numF (xS s i) 8 % 200
def cntF (n : Int) : Int := if n < 64 then n else 64
def mvR (s n i : Int) (a b c d e : Int → Int) (t : Int → ByteArray) (o : Int → Int) : Prop := (1 ≤ i ∧ i ≤ n) ∧ ∀ j, 0 ≤ j → j < i → a j = mvK s j ∧ b j = mvA s j ∧ c j = mvB s j ∧ d j = mvP s j ∧ e j = mvN s j ∧ t j = mvT s j ∧ o j = mvO s j
def movASpec : St → Inv := fun S =>
  { ι := Int × (Int → Int) × (Int → Int) × (Int → Int) × (Int → Int) × (Int → Int) × (Int → ByteArray) × (Int → Int)
    T := fun q => stS (keepS (setF S (slBSpec S 5) q.1 [.int .i64 q.2.1, .int .i64 q.2.2.1, .int .i64 q.2.2.2.1, .int .i64 q.2.2.2.2.1, .int .i64 q.2.2.2.2.2.1, .str q.2.2.2.2.2.2.1, .int .i64 q.2.2.2.2.2.2.2]) [0, 11]) [(5, .fsl (slBSpec S 5) q.1 (slCapSpec S 5)), (12, .int .i64 (.sym q.1))]
    R := fun q => mvR (iat S 0) (iat S 11) q.1 q.2.1 q.2.2.1 q.2.2.2.1 q.2.2.2.2.1 q.2.2.2.2.2.1 q.2.2.2.2.2.2.1 q.2.2.2.2.2.2.2
    μ := fun q => (64 - q.1).toNat }
def rmovASpec : St → Inv := fun S =>
  { ι := Int × (Int → Int) × (Int → Int) × (Int → Int) × (Int → Int) × (Int → Int) × (Int → ByteArray) × (Int → Int)
    T := fun q => stS (keepS (setF S (slBSpec S 5) q.1 [.int .i64 q.2.1, .int .i64 q.2.2.1, .int .i64 q.2.2.2.1, .int .i64 q.2.2.2.2.1, .int .i64 q.2.2.2.2.2.1, .str q.2.2.2.2.2.2.1, .int .i64 q.2.2.2.2.2.2.2]) [0, 1]) [(5, .fsl (slBSpec S 5) q.1 (slCapSpec S 5)), (6, .int .i64 (.sym q.1))]
    R := fun q => mvR (iat S 0) (cntF (iat S 1)) q.1 q.2.1 q.2.2.1 q.2.2.2.1 q.2.2.2.2.1 q.2.2.2.2.2.1 q.2.2.2.2.2.2.1 q.2.2.2.2.2.2.2
    μ := fun q => (64 - q.1).toNat }
def movAnnSpec : Anns := [(13, 0, movASpec), (14, 0, rmovASpec)]
def movPeelSpec : List (FuncId × Nat) := [(13, 0), (14, 0)]
def movsSpec : List (FuncId × CSpec) := [(7, mixSpec), (8, rMixSpec), (19, firstSpec), (10, rNumSpec)]
theorem movs_ok : SpecsOk Try.prog movsSpec := ⟨mix_ok, rMix_ok, first_ok, rNum_ok, trivial⟩
--@PLAIN
theorem md_of {x a b m : Int} (hx : U64 x) (hm : 0 < m) (hm2 : m ≤ 8589934592) (ha : a = x.tmod m) (hb : b = IntKind.i64.wrap a) : b = x % m := by
  unfold U64 at hx
  rw [tmod_nonneg hx.1] at ha
  have := Int.emod_nonneg x (show m ≠ 0 by omega)
  have := Int.emod_lt_of_pos x hm
  rw [hb, i64_id (by omega) (by omega), ha]
theorem mvK_of {s i x a b c : Int} (hx : x = xS s i) (ha : a = (numF x 1).tmod 11) (hb : b = IntKind.i64.wrap a) (hc : c = IntKind.i64.wrap (1 + b)) : c = mvK s i := by
  have e := md_of (num_in x 1) (by decide) (by decide) ha hb
  rw [hc, e, hx]; unfold mvK
  exact i64_id (by omega) (by omega)
theorem mvP_of {s i x a b m n : Int} (hi : 0 ≤ i) (hi2 : i < 64) (hx : x = xS s i) (hm : m = i + 1) (hn : n = IntKind.u64.wrap m) (ha : a = (numF x 4).tmod n) (hb : b = IntKind.i64.wrap a) : b = mvP s i := by
  rw [u64_id (by omega) (by omega)] at hn
  have e := md_of (num_in x 4) (by omega) (by omega) ha hb
  rw [e, hn, hm, hx]; rfl
theorem mvT_yes {s i x v b : Int} {t : ByteArray} (hx : x = xS s i) (hv : v = (numF x 6).tmod 4) (z : v = 0) (hb : b = IntKind.u8.wrap (numF x 7)) (ht : t = mkBytes [b]) : t = mvT s i := by
  rw [tmod_nonneg (num_in x 6).1] at hv
  unfold mvT
  rw [← hx, if_pos (by omega), ht, hb, w_u8]
theorem mvT_no {s i x v : Int} (hx : x = xS s i) (hv : v = (numF x 6).tmod 4) (z : v ≠ 0) : bytesL [] = mvT s i := by
  rw [tmod_nonneg (num_in x 6).1] at hv
  unfold mvT
  rw [← hx, if_neg (by omega)]
theorem mvR_first {s n : Int} {a b c d e o : Int} {t : ByteArray} (hn : 1 ≤ n) (ha : a = mvK s 0) (hb : b = mvA s 0) (hc : c = mvB s 0) (hd : d = mvP s 0) (he : e = mvN s 0) (ht : t = mvT s 0) (ho : o = mvO s 0) : mvR s n 1 (fun _ => a) (fun _ => b) (fun _ => c) (fun _ => d) (fun _ => e) (fun _ => t) (fun _ => o) := by
  refine ⟨by omega, fun j j0 j1 => ?_⟩
  obtain rfl : j = 0 := by omega
  exact ⟨ha, hb, hc, hd, he, ht, ho⟩
theorem mvR_step {s n i : Int} {a b c d e o : Int → Int} {t : Int → ByteArray} {a' b' c' d' e' o' : Int} {t' : ByteArray} (hR : mvR s n i a b c d e t o) (hi : i < n) (ha : a' = mvK s i) (hb : b' = mvA s i) (hc : c' = mvB s i) (hd : d' = mvP s i) (he : e' = mvN s i) (ht : t' = mvT s i) (ho : o' = mvO s i) :
    mvR s n (i + 1) (updF a i a') (updF b i b') (updF c i c') (updF d i d') (updF e i e') (updF t i t') (updF o i o') := by
  obtain ⟨h1, h2⟩ := hR
  refine ⟨by omega, fun j j0 j1 => ⟨?_, ?_, ?_, ?_, ?_, ?_, ?_⟩⟩
  · exact upd_ok (fun j x y => (h2 j x y).1) ha j j0 j1
  · exact upd_ok (fun j x y => (h2 j x y).2.1) hb j j0 j1
  · exact upd_ok (fun j x y => (h2 j x y).2.2.1) hc j j0 j1
  · exact upd_ok (fun j x y => (h2 j x y).2.2.2.1) hd j j0 j1
  · exact upd_ok (fun j x y => (h2 j x y).2.2.2.2.1) he j j0 j1
  · exact upd_ok (fun j x y => (h2 j x y).2.2.2.2.2.1) ht j j0 j1
  · exact upd_ok (fun j x y => (h2 j x y).2.2.2.2.2.2) ho j j0 j1
theorem cnt_in {n : Int} (h : 1 ≤ n) : 1 ≤ cntF n ∧ cntF n ≤ 64 ∧ cntF n ≤ n := by unfold cntF; split <;> omega
theorem xS_zero (s : Int) : mixF (IntKind.u64.wrap (s + 0)) = xS s 0 := by
  unfold xS
  rw [show IntKind.u64.wrap 0 = 0 by decide]
theorem nz {m n : Int} (h1 : 0 < m) (h2 : m ≤ 100) (hn : n = IntKind.u64.wrap m) : (!decide (n = (0 : Int))) = true := by
  rw [u64_id (by omega) (by omega)] at hn
  simp; omega
def movesSpec : RSpec := fun args k => match args, k with
  | [.int .u64 s, .int .i64 n], k => ((U64 s.val) ∧ (I64 n.val) ∧ (1 ≤ n.val)) ∧ (∀ n0_ : Int, n0_ = (cntF n.val) → ∀ g1_ : Int → Int, g1_ = (mvK s.val) → ∀ g2_ : Int → Int, g2_ = (mvA s.val) → ∀ g3_ : Int → Int, g3_ = (mvB s.val) → ∀ g4_ : Int → Int, g4_ = (mvP s.val) → ∀ g5_ : Int → Int, g5_ = (mvN s.val) → ∀ g6_ : Int → ByteArray, g6_ = (mvT s.val) → ∀ g7_ : Int → Int, g7_ = (mvO s.val) → k [.s n0_ [.int .i64 g1_, .int .i64 g2_, .int .i64 g3_, .int .i64 g4_, .int .i64 g5_, .str g6_, .int .i64 g7_] 36])
  | _, _ => False
def VCMoves (s : Int) (n : Int) : Prop :=
  ∀ (v1 : Int), (v1 = if (0 : Int) > n then (0 : Int) else n) -> ∀ (v2 : Int), (v2 = if (64 : Int) < v1 then (64 : Int) else v1) -> ∀ v3, v3 = decide ((0 : Int) < v2) -> (v3 = true -> ∀ v4, v4 = IntKind.u64.wrap (s + (0 : Int)) -> U64 v4 /\ ∀ v5, v5 = mixF v4 -> U64 v5 /\ ∀ v6, v6 = numF v5 (1 : Int) -> ∀ v7, v7 = numF v5 (2 : Int) -> ∀ v8, v8 = numF v5 (3 : Int) -> ∀ v9, v9 = numF v5 (4 : Int) -> ∀ v10, v10 = numF v5 (5 : Int) -> ∀ v11, v11 = numF v5 (6 : Int) -> ∀ v12, v12 = numF v5 (7 : Int) -> ∀ v13, v13 = numF v5 (8 : Int) -> ∀ v14, v14 = numF v5 (9 : Int) -> ∀ v15, v15 = numF v5 (10 : Int) -> ∀ v16, v16 = numF v5 (11 : Int) -> ∀ v17, v17 = numF v5 (12 : Int) -> ∀ v18, v18 = v6.tmod (11 : Int) -> ∀ v19, v19 = IntKind.i64.wrap v18 -> ∀ v20, v20 = IntKind.i64.wrap ((1 : Int) + v19) -> ∀ v21, v21 = v7.tmod (2 : Int) -> ∀ v22, v22 = IntKind.i64.wrap v21 -> ∀ v23, v23 = v8.tmod (3 : Int) -> ∀ v24, v24 = IntKind.i64.wrap v23 -> ∀ v25, v25 = v9.tmod (1 : Int) -> ∀ v26, v26 = IntKind.i64.wrap v25 -> ∀ v27, v27 = v10.tmod (8589934592 : Int) -> ∀ v28, v28 = IntKind.i64.wrap v27 -> ∀ v29, v29 = v13.tmod (200 : Int) -> ∀ v30, v30 = IntKind.i64.wrap v29 -> ∀ v31, v31 = v11.tmod (4 : Int) -> ∀ v32, v32 = (v31 == (0 : Int)) -> (v32 = true -> ∀ v33, v33 = IntKind.u8.wrap v12 -> ∀ (v34 : ByteArray), v34 = mkBytes [v33] -> (∃ (x35 : Int × (Int -> Int) × (Int -> Int) × (Int -> Int) × (Int -> Int) × (Int -> Int) × (Int -> ByteArray) × (Int -> Int)), mvR s v2 x35.fst x35.snd.fst x35.snd.snd.fst x35.snd.snd.snd.fst x35.snd.snd.snd.snd.fst x35.snd.snd.snd.snd.snd.fst x35.snd.snd.snd.snd.snd.snd.fst x35.snd.snd.snd.snd.snd.snd.snd /\ (s = s /\ ((1 : Int) = x35.fst /\ True) /\ v2 = v2 /\ (1 : Int) = x35.fst /\ True) /\ (v6 = v6 /\ v7 = v7 /\ v8 = v8 /\ v9 = v9 /\ v10 = v10 /\ v11 = v11 /\ v12 = v12 /\ v13 = v13 /\ v14 = v14 /\ v15 = v15 /\ v16 = v16 /\ v17 = v17 /\ True) /\ (v20 = v20 /\ v22 = v22 /\ v24 = v24 /\ v26 = v26 /\ v28 = v28 /\ v34 = v34 /\ v30 = v30 /\ True) /\ (v33 = v33 /\ True) /\ (v20 = v20 /\ v22 = v22 /\ v24 = v24 /\ v26 = v26 /\ v28 = v28 /\ v34 = v34 /\ v30 = v30 /\ True) /\ (x35.fst * (7 : Int) = (7 : Int) /\ v20 = x35.snd.fst (0 : Int) /\ v22 = x35.snd.snd.fst (0 : Int) /\ v24 = x35.snd.snd.snd.fst (0 : Int) /\ v26 = x35.snd.snd.snd.snd.fst (0 : Int) /\ v28 = x35.snd.snd.snd.snd.snd.fst (0 : Int) /\ v34 = x35.snd.snd.snd.snd.snd.snd.fst (0 : Int) /\ v30 = x35.snd.snd.snd.snd.snd.snd.snd (0 : Int) /\ True) /\ True) /\ ∀ (v36 : Int × (Int -> Int) × (Int -> Int) × (Int -> Int) × (Int -> Int) × (Int -> Int) × (Int -> ByteArray) × (Int -> Int)), mvR s v2 v36.fst v36.snd.fst v36.snd.snd.fst v36.snd.snd.snd.fst v36.snd.snd.snd.snd.fst v36.snd.snd.snd.snd.snd.fst v36.snd.snd.snd.snd.snd.snd.fst v36.snd.snd.snd.snd.snd.snd.snd -> ∀ v37, v37 = decide (v36.fst < v2) -> (v37 = true -> ∀ v38, v38 = IntKind.u64.wrap v36.fst -> ∀ v39, v39 = IntKind.u64.wrap (s + v38) -> U64 v39 /\ ∀ v40, v40 = mixF v39 -> U64 v40 /\ ∀ v41, v41 = numF v40 (1 : Int) -> ∀ v42, v42 = numF v40 (2 : Int) -> ∀ v43, v43 = numF v40 (3 : Int) -> ∀ v44, v44 = numF v40 (4 : Int) -> ∀ v45, v45 = numF v40 (5 : Int) -> ∀ v46, v46 = numF v40 (6 : Int) -> ∀ v47, v47 = numF v40 (7 : Int) -> ∀ v48, v48 = numF v40 (8 : Int) -> ∀ v49, v49 = numF v40 (9 : Int) -> ∀ v50, v50 = numF v40 (10 : Int) -> ∀ v51, v51 = numF v40 (11 : Int) -> ∀ v52, v52 = numF v40 (12 : Int) -> ∀ v53, v53 = v41.tmod (11 : Int) -> ∀ v54, v54 = IntKind.i64.wrap v53 -> ∀ v55, v55 = IntKind.i64.wrap ((1 : Int) + v54) -> ∀ v56, v56 = v42.tmod (2 : Int) -> ∀ v57, v57 = IntKind.i64.wrap v56 -> ∀ v58, v58 = v43.tmod (3 : Int) -> ∀ v59, v59 = IntKind.i64.wrap v58 -> ∀ v60, v60 = IntKind.i64.wrap (v36.fst + (1 : Int)) -> ∀ v61, v61 = IntKind.u64.wrap v60 -> (!decide (v61 = (0 : Int))) = true /\ ∀ v62, v62 = v44.tmod v61 -> ∀ v63, v63 = IntKind.i64.wrap v62 -> ∀ v64, v64 = v45.tmod (8589934592 : Int) -> ∀ v65, v65 = IntKind.i64.wrap v64 -> ∀ v66, v66 = v48.tmod (200 : Int) -> ∀ v67, v67 = IntKind.i64.wrap v66 -> ∀ v68, v68 = v46.tmod (4 : Int) -> ∀ v69, v69 = (v68 == (0 : Int)) -> (v69 = true -> ∀ v70, v70 = IntKind.u8.wrap v47 -> ∀ (v71 : ByteArray), v71 = mkBytes [v70] -> (v36.fst = v36.fst /\ (v36.fst + (1 : Int)) * (64 : Int) ≤ (140737488355328 : Int) /\ v36.fst + (1 : Int) ≤ (140737488355328 : Int)) /\ ∀ (v72 : Int -> Int), v72 = updF v36.snd.fst v36.fst v55 -> ∀ (v73 : Int -> Int), v73 = updF v36.snd.snd.fst v36.fst v57 -> ∀ (v74 : Int -> Int), v74 = updF v36.snd.snd.snd.fst v36.fst v59 -> ∀ (v75 : Int -> Int), v75 = updF v36.snd.snd.snd.snd.fst v36.fst v63 -> ∀ (v76 : Int -> Int), v76 = updF v36.snd.snd.snd.snd.snd.fst v36.fst v65 -> ∀ (v77 : Int -> ByteArray), v77 = updF v36.snd.snd.snd.snd.snd.snd.fst v36.fst v71 -> ∀ (v78 : Int -> Int), v78 = updF v36.snd.snd.snd.snd.snd.snd.snd v36.fst v67 -> ∀ v79, v79 = v36.fst + (1 : Int) -> ∀ v80, v80 = IntKind.i64.wrap (v36.fst + (1 : Int)) -> ∃ (x81 : Int × (Int -> Int) × (Int -> Int) × (Int -> Int) × (Int -> Int) × (Int -> Int) × (Int -> ByteArray) × (Int -> Int)), mvR s v2 x81.fst x81.snd.fst x81.snd.snd.fst x81.snd.snd.snd.fst x81.snd.snd.snd.snd.fst x81.snd.snd.snd.snd.snd.fst x81.snd.snd.snd.snd.snd.snd.fst x81.snd.snd.snd.snd.snd.snd.snd /\ ((s = s /\ (v79 = x81.fst /\ True) /\ v2 = v2 /\ v80 = x81.fst /\ True) /\ (v6 = v6 /\ v7 = v7 /\ v8 = v8 /\ v9 = v9 /\ v10 = v10 /\ v11 = v11 /\ v12 = v12 /\ v13 = v13 /\ v14 = v14 /\ v15 = v15 /\ v16 = v16 /\ v17 = v17 /\ True) /\ (v20 = v20 /\ v22 = v22 /\ v24 = v24 /\ v26 = v26 /\ v28 = v28 /\ v34 = v34 /\ v30 = v30 /\ True) /\ (v33 = v33 /\ True) /\ (v20 = v20 /\ v22 = v22 /\ v24 = v24 /\ v26 = v26 /\ v28 = v28 /\ v34 = v34 /\ v30 = v30 /\ True) /\ (v79 = x81.fst /\ (∀ (v82 : Int), (0 : Int) ≤ v82 -> v82 < x81.fst -> v72 v82 = x81.snd.fst v82) /\ (∀ (v83 : Int), (0 : Int) ≤ v83 -> v83 < x81.fst -> v73 v83 = x81.snd.snd.fst v83) /\ (∀ (v84 : Int), (0 : Int) ≤ v84 -> v84 < x81.fst -> v74 v84 = x81.snd.snd.snd.fst v84) /\ (∀ (v85 : Int), (0 : Int) ≤ v85 -> v85 < x81.fst -> v75 v85 = x81.snd.snd.snd.snd.fst v85) /\ (∀ (v86 : Int), (0 : Int) ≤ v86 -> v86 < x81.fst -> v76 v86 = x81.snd.snd.snd.snd.snd.fst v86) /\ (∀ (v87 : Int), (0 : Int) ≤ v87 -> v87 < x81.fst -> v77 v87 = x81.snd.snd.snd.snd.snd.snd.fst v87) /\ (∀ (v88 : Int), (0 : Int) ≤ v88 -> v88 < x81.fst -> v78 v88 = x81.snd.snd.snd.snd.snd.snd.snd v88) /\ True) /\ True) /\ ((64 : Int) - x81.fst).toNat < ((64 : Int) - v36.fst).toNat) /\ (v69 = false -> (v36.fst = v36.fst /\ (v36.fst + (1 : Int)) * (64 : Int) ≤ (140737488355328 : Int) /\ v36.fst + (1 : Int) ≤ (140737488355328 : Int)) /\ ∀ (v89 : Int -> Int), v89 = updF v36.snd.fst v36.fst v55 -> ∀ (v90 : Int -> Int), v90 = updF v36.snd.snd.fst v36.fst v57 -> ∀ (v91 : Int -> Int), v91 = updF v36.snd.snd.snd.fst v36.fst v59 -> ∀ (v92 : Int -> Int), v92 = updF v36.snd.snd.snd.snd.fst v36.fst v63 -> ∀ (v93 : Int -> Int), v93 = updF v36.snd.snd.snd.snd.snd.fst v36.fst v65 -> ∀ (v94 : Int -> ByteArray), v94 = updF v36.snd.snd.snd.snd.snd.snd.fst v36.fst (bytesL []) -> ∀ (v95 : Int -> Int), v95 = updF v36.snd.snd.snd.snd.snd.snd.snd v36.fst v67 -> ∀ v96, v96 = v36.fst + (1 : Int) -> ∀ v97, v97 = IntKind.i64.wrap (v36.fst + (1 : Int)) -> ∃ (x98 : Int × (Int -> Int) × (Int -> Int) × (Int -> Int) × (Int -> Int) × (Int -> Int) × (Int -> ByteArray) × (Int -> Int)), mvR s v2 x98.fst x98.snd.fst x98.snd.snd.fst x98.snd.snd.snd.fst x98.snd.snd.snd.snd.fst x98.snd.snd.snd.snd.snd.fst x98.snd.snd.snd.snd.snd.snd.fst x98.snd.snd.snd.snd.snd.snd.snd /\ ((s = s /\ (v96 = x98.fst /\ True) /\ v2 = v2 /\ v97 = x98.fst /\ True) /\ (v6 = v6 /\ v7 = v7 /\ v8 = v8 /\ v9 = v9 /\ v10 = v10 /\ v11 = v11 /\ v12 = v12 /\ v13 = v13 /\ v14 = v14 /\ v15 = v15 /\ v16 = v16 /\ v17 = v17 /\ True) /\ (v20 = v20 /\ v22 = v22 /\ v24 = v24 /\ v26 = v26 /\ v28 = v28 /\ v34 = v34 /\ v30 = v30 /\ True) /\ (v33 = v33 /\ True) /\ (v20 = v20 /\ v22 = v22 /\ v24 = v24 /\ v26 = v26 /\ v28 = v28 /\ v34 = v34 /\ v30 = v30 /\ True) /\ (v96 = x98.fst /\ (∀ (v99 : Int), (0 : Int) ≤ v99 -> v99 < x98.fst -> v89 v99 = x98.snd.fst v99) /\ (∀ (v100 : Int), (0 : Int) ≤ v100 -> v100 < x98.fst -> v90 v100 = x98.snd.snd.fst v100) /\ (∀ (v101 : Int), (0 : Int) ≤ v101 -> v101 < x98.fst -> v91 v101 = x98.snd.snd.snd.fst v101) /\ (∀ (v102 : Int), (0 : Int) ≤ v102 -> v102 < x98.fst -> v92 v102 = x98.snd.snd.snd.snd.fst v102) /\ (∀ (v103 : Int), (0 : Int) ≤ v103 -> v103 < x98.fst -> v93 v103 = x98.snd.snd.snd.snd.snd.fst v103) /\ (∀ (v104 : Int), (0 : Int) ≤ v104 -> v104 < x98.fst -> v94 v104 = x98.snd.snd.snd.snd.snd.snd.fst v104) /\ (∀ (v105 : Int), (0 : Int) ≤ v105 -> v105 < x98.fst -> v95 v105 = x98.snd.snd.snd.snd.snd.snd.snd v105) /\ True) /\ True) /\ ((64 : Int) - x98.fst).toNat < ((64 : Int) - v36.fst).toNat)) /\ (v37 = false -> (v36.fst = cntF n /\ (0 : Int) ≤ cntF n) /\ (v36.fst = cntF n /\ (∀ (v106 : Int), (0 : Int) ≤ v106 -> v106 < cntF n -> v36.snd.fst v106 = mvK s v106) /\ (∀ (v107 : Int), (0 : Int) ≤ v107 -> v107 < cntF n -> v36.snd.snd.fst v107 = mvA s v107) /\ (∀ (v108 : Int), (0 : Int) ≤ v108 -> v108 < cntF n -> v36.snd.snd.snd.fst v108 = mvB s v108) /\ (∀ (v109 : Int), (0 : Int) ≤ v109 -> v109 < cntF n -> v36.snd.snd.snd.snd.fst v109 = mvP s v109) /\ (∀ (v110 : Int), (0 : Int) ≤ v110 -> v110 < cntF n -> v36.snd.snd.snd.snd.snd.fst v110 = mvN s v110) /\ (∀ (v111 : Int), (0 : Int) ≤ v111 -> v111 < cntF n -> v36.snd.snd.snd.snd.snd.snd.fst v111 = mvT s v111) /\ (∀ (v112 : Int), (0 : Int) ≤ v112 -> v112 < cntF n -> v36.snd.snd.snd.snd.snd.snd.snd v112 = mvO s v112) /\ True) /\ True)) /\ (v32 = false -> (∃ (x113 : Int × (Int -> Int) × (Int -> Int) × (Int -> Int) × (Int -> Int) × (Int -> Int) × (Int -> ByteArray) × (Int -> Int)), mvR s v2 x113.fst x113.snd.fst x113.snd.snd.fst x113.snd.snd.snd.fst x113.snd.snd.snd.snd.fst x113.snd.snd.snd.snd.snd.fst x113.snd.snd.snd.snd.snd.snd.fst x113.snd.snd.snd.snd.snd.snd.snd /\ (s = s /\ ((1 : Int) = x113.fst /\ True) /\ v2 = v2 /\ (1 : Int) = x113.fst /\ True) /\ (v6 = v6 /\ v7 = v7 /\ v8 = v8 /\ v9 = v9 /\ v10 = v10 /\ v11 = v11 /\ v12 = v12 /\ v13 = v13 /\ v14 = v14 /\ v15 = v15 /\ v16 = v16 /\ v17 = v17 /\ True) /\ (v20 = v20 /\ v22 = v22 /\ v24 = v24 /\ v26 = v26 /\ v28 = v28 /\ bytesL [] = bytesL [] /\ v30 = v30 /\ True) /\ (v20 = v20 /\ v22 = v22 /\ v24 = v24 /\ v26 = v26 /\ v28 = v28 /\ bytesL [] = bytesL [] /\ v30 = v30 /\ True) /\ (x113.fst * (7 : Int) = (7 : Int) /\ v20 = x113.snd.fst (0 : Int) /\ v22 = x113.snd.snd.fst (0 : Int) /\ v24 = x113.snd.snd.snd.fst (0 : Int) /\ v26 = x113.snd.snd.snd.snd.fst (0 : Int) /\ v28 = x113.snd.snd.snd.snd.snd.fst (0 : Int) /\ bytesL [] = x113.snd.snd.snd.snd.snd.snd.fst (0 : Int) /\ v30 = x113.snd.snd.snd.snd.snd.snd.snd (0 : Int) /\ True) /\ True) /\ ∀ (v114 : Int × (Int -> Int) × (Int -> Int) × (Int -> Int) × (Int -> Int) × (Int -> Int) × (Int -> ByteArray) × (Int -> Int)), mvR s v2 v114.fst v114.snd.fst v114.snd.snd.fst v114.snd.snd.snd.fst v114.snd.snd.snd.snd.fst v114.snd.snd.snd.snd.snd.fst v114.snd.snd.snd.snd.snd.snd.fst v114.snd.snd.snd.snd.snd.snd.snd -> ∀ v115, v115 = decide (v114.fst < v2) -> (v115 = true -> ∀ v116, v116 = IntKind.u64.wrap v114.fst -> ∀ v117, v117 = IntKind.u64.wrap (s + v116) -> U64 v117 /\ ∀ v118, v118 = mixF v117 -> U64 v118 /\ ∀ v119, v119 = numF v118 (1 : Int) -> ∀ v120, v120 = numF v118 (2 : Int) -> ∀ v121, v121 = numF v118 (3 : Int) -> ∀ v122, v122 = numF v118 (4 : Int) -> ∀ v123, v123 = numF v118 (5 : Int) -> ∀ v124, v124 = numF v118 (6 : Int) -> ∀ v125, v125 = numF v118 (7 : Int) -> ∀ v126, v126 = numF v118 (8 : Int) -> ∀ v127, v127 = numF v118 (9 : Int) -> ∀ v128, v128 = numF v118 (10 : Int) -> ∀ v129, v129 = numF v118 (11 : Int) -> ∀ v130, v130 = numF v118 (12 : Int) -> ∀ v131, v131 = v119.tmod (11 : Int) -> ∀ v132, v132 = IntKind.i64.wrap v131 -> ∀ v133, v133 = IntKind.i64.wrap ((1 : Int) + v132) -> ∀ v134, v134 = v120.tmod (2 : Int) -> ∀ v135, v135 = IntKind.i64.wrap v134 -> ∀ v136, v136 = v121.tmod (3 : Int) -> ∀ v137, v137 = IntKind.i64.wrap v136 -> ∀ v138, v138 = IntKind.i64.wrap (v114.fst + (1 : Int)) -> ∀ v139, v139 = IntKind.u64.wrap v138 -> (!decide (v139 = (0 : Int))) = true /\ ∀ v140, v140 = v122.tmod v139 -> ∀ v141, v141 = IntKind.i64.wrap v140 -> ∀ v142, v142 = v123.tmod (8589934592 : Int) -> ∀ v143, v143 = IntKind.i64.wrap v142 -> ∀ v144, v144 = v126.tmod (200 : Int) -> ∀ v145, v145 = IntKind.i64.wrap v144 -> ∀ v146, v146 = v124.tmod (4 : Int) -> ∀ v147, v147 = (v146 == (0 : Int)) -> (v147 = true -> ∀ v148, v148 = IntKind.u8.wrap v125 -> ∀ (v149 : ByteArray), v149 = mkBytes [v148] -> (v114.fst = v114.fst /\ (v114.fst + (1 : Int)) * (64 : Int) ≤ (140737488355328 : Int) /\ v114.fst + (1 : Int) ≤ (140737488355328 : Int)) /\ ∀ (v150 : Int -> Int), v150 = updF v114.snd.fst v114.fst v133 -> ∀ (v151 : Int -> Int), v151 = updF v114.snd.snd.fst v114.fst v135 -> ∀ (v152 : Int -> Int), v152 = updF v114.snd.snd.snd.fst v114.fst v137 -> ∀ (v153 : Int -> Int), v153 = updF v114.snd.snd.snd.snd.fst v114.fst v141 -> ∀ (v154 : Int -> Int), v154 = updF v114.snd.snd.snd.snd.snd.fst v114.fst v143 -> ∀ (v155 : Int -> ByteArray), v155 = updF v114.snd.snd.snd.snd.snd.snd.fst v114.fst v149 -> ∀ (v156 : Int -> Int), v156 = updF v114.snd.snd.snd.snd.snd.snd.snd v114.fst v145 -> ∀ v157, v157 = v114.fst + (1 : Int) -> ∀ v158, v158 = IntKind.i64.wrap (v114.fst + (1 : Int)) -> ∃ (x159 : Int × (Int -> Int) × (Int -> Int) × (Int -> Int) × (Int -> Int) × (Int -> Int) × (Int -> ByteArray) × (Int -> Int)), mvR s v2 x159.fst x159.snd.fst x159.snd.snd.fst x159.snd.snd.snd.fst x159.snd.snd.snd.snd.fst x159.snd.snd.snd.snd.snd.fst x159.snd.snd.snd.snd.snd.snd.fst x159.snd.snd.snd.snd.snd.snd.snd /\ ((s = s /\ (v157 = x159.fst /\ True) /\ v2 = v2 /\ v158 = x159.fst /\ True) /\ (v6 = v6 /\ v7 = v7 /\ v8 = v8 /\ v9 = v9 /\ v10 = v10 /\ v11 = v11 /\ v12 = v12 /\ v13 = v13 /\ v14 = v14 /\ v15 = v15 /\ v16 = v16 /\ v17 = v17 /\ True) /\ (v20 = v20 /\ v22 = v22 /\ v24 = v24 /\ v26 = v26 /\ v28 = v28 /\ bytesL [] = bytesL [] /\ v30 = v30 /\ True) /\ (v20 = v20 /\ v22 = v22 /\ v24 = v24 /\ v26 = v26 /\ v28 = v28 /\ bytesL [] = bytesL [] /\ v30 = v30 /\ True) /\ (v157 = x159.fst /\ (∀ (v160 : Int), (0 : Int) ≤ v160 -> v160 < x159.fst -> v150 v160 = x159.snd.fst v160) /\ (∀ (v161 : Int), (0 : Int) ≤ v161 -> v161 < x159.fst -> v151 v161 = x159.snd.snd.fst v161) /\ (∀ (v162 : Int), (0 : Int) ≤ v162 -> v162 < x159.fst -> v152 v162 = x159.snd.snd.snd.fst v162) /\ (∀ (v163 : Int), (0 : Int) ≤ v163 -> v163 < x159.fst -> v153 v163 = x159.snd.snd.snd.snd.fst v163) /\ (∀ (v164 : Int), (0 : Int) ≤ v164 -> v164 < x159.fst -> v154 v164 = x159.snd.snd.snd.snd.snd.fst v164) /\ (∀ (v165 : Int), (0 : Int) ≤ v165 -> v165 < x159.fst -> v155 v165 = x159.snd.snd.snd.snd.snd.snd.fst v165) /\ (∀ (v166 : Int), (0 : Int) ≤ v166 -> v166 < x159.fst -> v156 v166 = x159.snd.snd.snd.snd.snd.snd.snd v166) /\ True) /\ True) /\ ((64 : Int) - x159.fst).toNat < ((64 : Int) - v114.fst).toNat) /\ (v147 = false -> (v114.fst = v114.fst /\ (v114.fst + (1 : Int)) * (64 : Int) ≤ (140737488355328 : Int) /\ v114.fst + (1 : Int) ≤ (140737488355328 : Int)) /\ ∀ (v167 : Int -> Int), v167 = updF v114.snd.fst v114.fst v133 -> ∀ (v168 : Int -> Int), v168 = updF v114.snd.snd.fst v114.fst v135 -> ∀ (v169 : Int -> Int), v169 = updF v114.snd.snd.snd.fst v114.fst v137 -> ∀ (v170 : Int -> Int), v170 = updF v114.snd.snd.snd.snd.fst v114.fst v141 -> ∀ (v171 : Int -> Int), v171 = updF v114.snd.snd.snd.snd.snd.fst v114.fst v143 -> ∀ (v172 : Int -> ByteArray), v172 = updF v114.snd.snd.snd.snd.snd.snd.fst v114.fst (bytesL []) -> ∀ (v173 : Int -> Int), v173 = updF v114.snd.snd.snd.snd.snd.snd.snd v114.fst v145 -> ∀ v174, v174 = v114.fst + (1 : Int) -> ∀ v175, v175 = IntKind.i64.wrap (v114.fst + (1 : Int)) -> ∃ (x176 : Int × (Int -> Int) × (Int -> Int) × (Int -> Int) × (Int -> Int) × (Int -> Int) × (Int -> ByteArray) × (Int -> Int)), mvR s v2 x176.fst x176.snd.fst x176.snd.snd.fst x176.snd.snd.snd.fst x176.snd.snd.snd.snd.fst x176.snd.snd.snd.snd.snd.fst x176.snd.snd.snd.snd.snd.snd.fst x176.snd.snd.snd.snd.snd.snd.snd /\ ((s = s /\ (v174 = x176.fst /\ True) /\ v2 = v2 /\ v175 = x176.fst /\ True) /\ (v6 = v6 /\ v7 = v7 /\ v8 = v8 /\ v9 = v9 /\ v10 = v10 /\ v11 = v11 /\ v12 = v12 /\ v13 = v13 /\ v14 = v14 /\ v15 = v15 /\ v16 = v16 /\ v17 = v17 /\ True) /\ (v20 = v20 /\ v22 = v22 /\ v24 = v24 /\ v26 = v26 /\ v28 = v28 /\ bytesL [] = bytesL [] /\ v30 = v30 /\ True) /\ (v20 = v20 /\ v22 = v22 /\ v24 = v24 /\ v26 = v26 /\ v28 = v28 /\ bytesL [] = bytesL [] /\ v30 = v30 /\ True) /\ (v174 = x176.fst /\ (∀ (v177 : Int), (0 : Int) ≤ v177 -> v177 < x176.fst -> v167 v177 = x176.snd.fst v177) /\ (∀ (v178 : Int), (0 : Int) ≤ v178 -> v178 < x176.fst -> v168 v178 = x176.snd.snd.fst v178) /\ (∀ (v179 : Int), (0 : Int) ≤ v179 -> v179 < x176.fst -> v169 v179 = x176.snd.snd.snd.fst v179) /\ (∀ (v180 : Int), (0 : Int) ≤ v180 -> v180 < x176.fst -> v170 v180 = x176.snd.snd.snd.snd.fst v180) /\ (∀ (v181 : Int), (0 : Int) ≤ v181 -> v181 < x176.fst -> v171 v181 = x176.snd.snd.snd.snd.snd.fst v181) /\ (∀ (v182 : Int), (0 : Int) ≤ v182 -> v182 < x176.fst -> v172 v182 = x176.snd.snd.snd.snd.snd.snd.fst v182) /\ (∀ (v183 : Int), (0 : Int) ≤ v183 -> v183 < x176.fst -> v173 v183 = x176.snd.snd.snd.snd.snd.snd.snd v183) /\ True) /\ True) /\ ((64 : Int) - x176.fst).toNat < ((64 : Int) - v114.fst).toNat)) /\ (v115 = false -> (v114.fst = cntF n /\ (0 : Int) ≤ cntF n) /\ (v114.fst = cntF n /\ (∀ (v184 : Int), (0 : Int) ≤ v184 -> v184 < cntF n -> v114.snd.fst v184 = mvK s v184) /\ (∀ (v185 : Int), (0 : Int) ≤ v185 -> v185 < cntF n -> v114.snd.snd.fst v185 = mvA s v185) /\ (∀ (v186 : Int), (0 : Int) ≤ v186 -> v186 < cntF n -> v114.snd.snd.snd.fst v186 = mvB s v186) /\ (∀ (v187 : Int), (0 : Int) ≤ v187 -> v187 < cntF n -> v114.snd.snd.snd.snd.fst v187 = mvP s v187) /\ (∀ (v188 : Int), (0 : Int) ≤ v188 -> v188 < cntF n -> v114.snd.snd.snd.snd.snd.fst v188 = mvN s v188) /\ (∀ (v189 : Int), (0 : Int) ≤ v189 -> v189 < cntF n -> v114.snd.snd.snd.snd.snd.snd.fst v189 = mvT s v189) /\ (∀ (v190 : Int), (0 : Int) ≤ v190 -> v190 < cntF n -> v114.snd.snd.snd.snd.snd.snd.snd v190 = mvO s v190) /\ True) /\ True))) /\ (v3 = false -> False)
theorem tieMoves (w0 : World) (s : Int) (n : Int) : VCMoves s n = ((recN (GR Try.prog movsSpec [] [] [] movAnnSpec [] [] movPeelSpec [] [] w0) 60).call 13 [.int .u64 (.sym s), .int .i64 (.sym n)] [] (fun r__ h__ => eqR h__ r__ [.s (cntF n) [.int .i64 (mvK s), .int .i64 (mvA s), .int .i64 (mvB s), .int .i64 (mvP s), .int .i64 (mvN s), .str (mvT s), .int .i64 (mvO s)] 36])) := by kernel_rfl
theorem pureMoves (w0 : World) (s n : Int) (h : U64 s ∧ I64 n ∧ 1 ≤ n) (hm : True) : VCMoves s n := by
  obtain ⟨hs, hn, n1⟩ := h
  have hcn := cnt_in n1
  unfold VCMoves
  intro v1 h1 v2 h2
  have hv2 : v2 = cntF n := by unfold cntF; omega
  clear h1 h2
  subst hv2
  refine br (fun c0 => ?_) fun c0 => absurd c0 (by omega)
  rintro _ rfl
  refine ⟨u64_in _, ?_⟩
  intro x hx0
  have hx : x = xS s 0 := hx0.trans (xS_zero s)
  refine ⟨by rw [hx]; exact mix_in _, ?_⟩
  rintro _ rfl _ rfl _ rfl _ rfl _ rfl _ rfl _ rfl _ rfl _ rfl _ rfl _ rfl _ rfl
  intro v18 h18 v19 h19 v20 h20 v21 h21 v22 h22 v23 h23 v24 h24 v25 h25 v26 h26 v27 h27 v28 h28 v29 h29 v30 h30 v31 h31
  have eK := mvK_of hx h18 h19 h20
  have eA : v22 = mvA s 0 := by rw [md_of (num_in x 2) (by decide) (by decide) h21 h22, hx]; rfl
  have eB : v24 = mvB s 0 := by rw [md_of (num_in x 3) (by decide) (by decide) h23 h24, hx]; rfl
  have eP : v26 = mvP s 0 := by rw [md_of (num_in x 4) (by decide) (by decide) h25 h26, hx]; rfl
  have eN : v28 = mvN s 0 := by rw [md_of (num_in x 5) (by decide) (by decide) h27 h28, hx]; rfl
  have eO : v30 = mvO s 0 := by rw [md_of (num_in x 8) (by decide) (by decide) h29 h30, hx]; rfl
  refine brE (fun z => ?_) fun z => ?_
  · intro v33 h33 v34 h34
    have eT := mvT_yes hx h31 z h33 h34
    refine ⟨⟨(1, _, _, _, _, _, _, _), mvR_first (by omega) eK eA eB eP eN eT eO, by simp⟩, ?_⟩
    rintro ⟨i, a, b, c, d, e, t, o⟩ hR
    dsimp only at hR ⊢
    have i0 := hR.1
    have w5 : IntKind.i64.wrap (i + 1) = i + 1 := i64_id (by omega) (by omega)
    rw [w5]
    refine br (fun ci => ?_) fun ci => ?_
    · rintro _ rfl _ rfl
      refine ⟨u64_in _, ?_⟩
      intro x hx0
      have hx : x = xS s i := hx0
      refine ⟨by rw [hx]; exact mix_in _, ?_⟩
      rintro _ rfl _ rfl _ rfl _ rfl _ rfl _ rfl _ rfl _ rfl _ rfl _ rfl _ rfl _ rfl
      intro v53 h53 v54 h54 v55 h55 v56 h56 v57 h57 v58 h58 v59 h59 v60 h60 v61 h61
      refine ⟨nz (by omega) (by omega) h61, ?_⟩
      intro v62 h62 v63 h63 v64 h64 v65 h65 v66 h66 v67 h67 v68 h68
      have eK := mvK_of hx h53 h54 h55
      have eA : v57 = mvA s i := by rw [md_of (num_in x 2) (by decide) (by decide) h56 h57, hx]; rfl
      have eB : v59 = mvB s i := by rw [md_of (num_in x 3) (by decide) (by decide) h58 h59, hx]; rfl
      have eP := mvP_of (by omega) (by omega) hx h60 h61 h62 h63
      have eN : v65 = mvN s i := by rw [md_of (num_in x 5) (by decide) (by decide) h64 h65, hx]; rfl
      have eO : v67 = mvO s i := by rw [md_of (num_in x 8) (by decide) (by decide) h66 h67, hx]; rfl
      refine brE (fun z => ?_) fun z => ?_
      · intro v70 h70 v71 h71
        have eT := mvT_yes hx h68 z h70 h71
        refine ⟨⟨rfl, by omega, by omega⟩, ?_⟩
        rintro _ rfl _ rfl _ rfl _ rfl _ rfl _ rfl _ rfl _ rfl _ rfl
        exact ⟨(i + 1, updF a i v55, updF b i v57, updF c i v59, updF d i v63, updF e i v65, updF t i v71, updF o i v67), mvR_step hR ci eK eA eB eP eN eT eO, by simp, by dsimp only; omega⟩
      · have eT := mvT_no hx h68 z
        refine ⟨⟨rfl, by omega, by omega⟩, ?_⟩
        rintro _ rfl _ rfl _ rfl _ rfl _ rfl _ rfl _ rfl _ rfl _ rfl
        exact ⟨(i + 1, updF a i v55, updF b i v57, updF c i v59, updF d i v63, updF e i v65, updF t i (bytesL []), updF o i v67), mvR_step hR ci eK eA eB eP eN eT eO, by simp, by dsimp only; omega⟩
    · have ec : i = cntF n := by omega
      subst ec
      exact ⟨⟨rfl, by omega⟩, ⟨rfl, fun j a b => (hR.2 j a b).1, fun j a b => (hR.2 j a b).2.1, fun j a b => (hR.2 j a b).2.2.1, fun j a b => (hR.2 j a b).2.2.2.1, fun j a b => (hR.2 j a b).2.2.2.2.1, fun j a b => (hR.2 j a b).2.2.2.2.2.1, fun j a b => (hR.2 j a b).2.2.2.2.2.2, trivial⟩, trivial⟩
  · have eT := mvT_no hx h31 z
    refine ⟨⟨(1, _, _, _, _, _, _, _), mvR_first (by omega) eK eA eB eP eN eT eO, by simp⟩, ?_⟩
    rintro ⟨i, a, b, c, d, e, t, o⟩ hR
    dsimp only at hR ⊢
    have i0 := hR.1
    have w5 : IntKind.i64.wrap (i + 1) = i + 1 := i64_id (by omega) (by omega)
    rw [w5]
    refine br (fun ci => ?_) fun ci => ?_
    · rintro _ rfl _ rfl
      refine ⟨u64_in _, ?_⟩
      intro x hx0
      have hx : x = xS s i := hx0
      refine ⟨by rw [hx]; exact mix_in _, ?_⟩
      rintro _ rfl _ rfl _ rfl _ rfl _ rfl _ rfl _ rfl _ rfl _ rfl _ rfl _ rfl _ rfl
      intro v53 h53 v54 h54 v55 h55 v56 h56 v57 h57 v58 h58 v59 h59 v60 h60 v61 h61
      refine ⟨nz (by omega) (by omega) h61, ?_⟩
      intro v62 h62 v63 h63 v64 h64 v65 h65 v66 h66 v67 h67 v68 h68
      have eK := mvK_of hx h53 h54 h55
      have eA : v57 = mvA s i := by rw [md_of (num_in x 2) (by decide) (by decide) h56 h57, hx]; rfl
      have eB : v59 = mvB s i := by rw [md_of (num_in x 3) (by decide) (by decide) h58 h59, hx]; rfl
      have eP := mvP_of (by omega) (by omega) hx h60 h61 h62 h63
      have eN : v65 = mvN s i := by rw [md_of (num_in x 5) (by decide) (by decide) h64 h65, hx]; rfl
      have eO : v67 = mvO s i := by rw [md_of (num_in x 8) (by decide) (by decide) h66 h67, hx]; rfl
      refine brE (fun z => ?_) fun z => ?_
      · intro v70 h70 v71 h71
        have eT := mvT_yes hx h68 z h70 h71
        refine ⟨⟨rfl, by omega, by omega⟩, ?_⟩
        rintro _ rfl _ rfl _ rfl _ rfl _ rfl _ rfl _ rfl _ rfl _ rfl
        exact ⟨(i + 1, updF a i v55, updF b i v57, updF c i v59, updF d i v63, updF e i v65, updF t i v71, updF o i v67), mvR_step hR ci eK eA eB eP eN eT eO, by simp, by dsimp only; omega⟩
      · have eT := mvT_no hx h68 z
        refine ⟨⟨rfl, by omega, by omega⟩, ?_⟩
        rintro _ rfl _ rfl _ rfl _ rfl _ rfl _ rfl _ rfl _ rfl _ rfl
        exact ⟨(i + 1, updF a i v55, updF b i v57, updF c i v59, updF d i v63, updF e i v65, updF t i (bytesL []), updF o i v67), mvR_step hR ci eK eA eB eP eN eT eO, by simp, by dsimp only; omega⟩
    · have ec : i = cntF n := by omega
      subst ec
      exact ⟨⟨rfl, by omega⟩, ⟨rfl, fun j a b => (hR.2 j a b).1, fun j a b => (hR.2 j a b).2.1, fun j a b => (hR.2 j a b).2.2.1, fun j a b => (hR.2 j a b).2.2.2.1, fun j a b => (hR.2 j a b).2.2.2.2.1, fun j a b => (hR.2 j a b).2.2.2.2.2.1, fun j a b => (hR.2 j a b).2.2.2.2.2.2, trivial⟩, trivial⟩
theorem moves_ok : SpecOkR Try.prog 13 movesSpec := by
  intro args k h
  unfold movesSpec at h
  split at h
  · rename_i s n
    obtain ⟨hr, h⟩ := h
    refine ⟨_, h _ rfl _ rfl _ rfl _ rfl _ rfl _ rfl _ rfl _ rfl, fun w0 args' he0 hm => ?_⟩
    obtain ⟨_, rfl, he1⟩ := eqBL_i he0
    obtain ⟨_, rfl, he2⟩ := eqBL_i he1
    obtain rfl := eqBL_n he2
    exact RunOk.of_tie (GR Try.prog movsSpec [] [] [] movAnnSpec [] [] movPeelSpec [] []) (fun w__ => gokR w__ namesOk_ mixed_ movs_ok trivial trivial trivial) (fun _ => rfl) (fun _ => rfl) (args' := [.int .u64 (.sym s.val), .int .i64 (.sym n.val)]) ⟨⟨rfl, rfl⟩, ⟨rfl, rfl⟩, trivial⟩ 60 (fun w__ => VCMoves s.val n.val) (fun w__ => tieMoves w__ s.val n.val) hm (fun w__ hm__ => pureMoves w__ s.val n.val hr hm__)
  · exact h.elim

def rMovesSpec : RSpec := fun args k => match args, k with
  | [.int .u64 s, .int .i64 n], k => ((U64 s.val) ∧ (I64 n.val) ∧ (1 ≤ n.val)) ∧ (∀ n0_ : Int, n0_ = (cntF n.val) → ∀ g1_ : Int → Int, g1_ = (mvK s.val) → ∀ g2_ : Int → Int, g2_ = (mvA s.val) → ∀ g3_ : Int → Int, g3_ = (mvB s.val) → ∀ g4_ : Int → Int, g4_ = (mvP s.val) → ∀ g5_ : Int → Int, g5_ = (mvN s.val) → ∀ g6_ : Int → ByteArray, g6_ = (mvT s.val) → ∀ g7_ : Int → Int, g7_ = (mvO s.val) → k [.s n0_ [.int .i64 g1_, .int .i64 g2_, .int .i64 g3_, .int .i64 g4_, .int .i64 g5_, .str g6_, .int .i64 g7_] 36])
  | _, _ => False
def VCRMoves (s : Int) (n : Int) : Prop :=
  ∀ v1, v1 = decide ((0 : Int) < n) -> (v1 = true -> ∀ v2, v2 = IntKind.u64.wrap (s + (0 : Int)) -> U64 v2 /\ ∀ v3, v3 = mixF v2 -> (U64 v3 /\ I64 (1 : Int)) /\ ∀ v4, v4 = numF v3 (1 : Int) -> ∀ v5, v5 = v4.tmod (11 : Int) -> ∀ v6, v6 = IntKind.i64.wrap v5 -> ∀ v7, v7 = IntKind.i64.wrap (v6 + (1 : Int)) -> (U64 v3 /\ I64 (2 : Int)) /\ ∀ v8, v8 = numF v3 (2 : Int) -> ∀ v9, v9 = v8.tmod (2 : Int) -> ∀ v10, v10 = IntKind.i64.wrap v9 -> (U64 v3 /\ I64 (3 : Int)) /\ ∀ v11, v11 = numF v3 (3 : Int) -> ∀ v12, v12 = v11.tmod (3 : Int) -> ∀ v13, v13 = IntKind.i64.wrap v12 -> (U64 v3 /\ I64 (4 : Int)) /\ ∀ v14, v14 = numF v3 (4 : Int) -> ∀ v15, v15 = v14.tmod (1 : Int) -> ∀ v16, v16 = IntKind.i64.wrap v15 -> (U64 v3 /\ I64 (5 : Int)) /\ ∀ v17, v17 = numF v3 (5 : Int) -> ∀ v18, v18 = v17.tmod (8589934592 : Int) -> ∀ v19, v19 = IntKind.i64.wrap v18 -> (U64 v3 /\ I64 (8 : Int)) /\ ∀ v20, v20 = numF v3 (8 : Int) -> ∀ v21, v21 = v20.tmod (200 : Int) -> ∀ v22, v22 = IntKind.i64.wrap v21 -> (U64 v3 /\ I64 (6 : Int)) /\ ∀ v23, v23 = numF v3 (6 : Int) -> ∀ v24, v24 = v23.tmod (4 : Int) -> ∀ v25, v25 = (v24 == (0 : Int)) -> (v25 = true -> (U64 v3 /\ I64 (7 : Int)) /\ ∀ v26, v26 = numF v3 (7 : Int) -> ∀ v27, v27 = IntKind.u8.wrap v26 -> ∀ (v28 : ByteArray), v28 = mkBytes [v27] -> (∃ (x29 : Int × (Int -> Int) × (Int -> Int) × (Int -> Int) × (Int -> Int) × (Int -> Int) × (Int -> ByteArray) × (Int -> Int)), mvR s (cntF n) x29.fst x29.snd.fst x29.snd.snd.fst x29.snd.snd.snd.fst x29.snd.snd.snd.snd.fst x29.snd.snd.snd.snd.snd.fst x29.snd.snd.snd.snd.snd.snd.fst x29.snd.snd.snd.snd.snd.snd.snd /\ (s = s /\ n = n /\ ((1 : Int) = x29.fst /\ True) /\ (1 : Int) = x29.fst /\ True) /\ (v7 = v7 /\ v10 = v10 /\ v13 = v13 /\ v16 = v16 /\ v19 = v19 /\ v28 = v28 /\ v22 = v22 /\ True) /\ (v27 = v27 /\ True) /\ (v7 = v7 /\ v10 = v10 /\ v13 = v13 /\ v16 = v16 /\ v19 = v19 /\ v28 = v28 /\ v22 = v22 /\ True) /\ (x29.fst * (7 : Int) = (7 : Int) /\ v7 = x29.snd.fst (0 : Int) /\ v10 = x29.snd.snd.fst (0 : Int) /\ v13 = x29.snd.snd.snd.fst (0 : Int) /\ v16 = x29.snd.snd.snd.snd.fst (0 : Int) /\ v19 = x29.snd.snd.snd.snd.snd.fst (0 : Int) /\ v28 = x29.snd.snd.snd.snd.snd.snd.fst (0 : Int) /\ v22 = x29.snd.snd.snd.snd.snd.snd.snd (0 : Int) /\ True) /\ True) /\ ∀ (v30 : Int × (Int -> Int) × (Int -> Int) × (Int -> Int) × (Int -> Int) × (Int -> Int) × (Int -> ByteArray) × (Int -> Int)), mvR s (cntF n) v30.fst v30.snd.fst v30.snd.snd.fst v30.snd.snd.snd.fst v30.snd.snd.snd.snd.fst v30.snd.snd.snd.snd.snd.fst v30.snd.snd.snd.snd.snd.snd.fst v30.snd.snd.snd.snd.snd.snd.snd -> ∀ v31, v31 = decide (v30.fst < n) -> (v31 = true -> ∀ v32, v32 = decide (v30.fst < (64 : Int)) -> (v32 = true -> ∀ v33, v33 = IntKind.u64.wrap v30.fst -> ∀ v34, v34 = IntKind.u64.wrap (s + v33) -> U64 v34 /\ ∀ v35, v35 = mixF v34 -> (U64 v35 /\ I64 (1 : Int)) /\ ∀ v36, v36 = numF v35 (1 : Int) -> ∀ v37, v37 = v36.tmod (11 : Int) -> ∀ v38, v38 = IntKind.i64.wrap v37 -> ∀ v39, v39 = IntKind.i64.wrap (v38 + (1 : Int)) -> (U64 v35 /\ I64 (2 : Int)) /\ ∀ v40, v40 = numF v35 (2 : Int) -> ∀ v41, v41 = v40.tmod (2 : Int) -> ∀ v42, v42 = IntKind.i64.wrap v41 -> (U64 v35 /\ I64 (3 : Int)) /\ ∀ v43, v43 = numF v35 (3 : Int) -> ∀ v44, v44 = v43.tmod (3 : Int) -> ∀ v45, v45 = IntKind.i64.wrap v44 -> (U64 v35 /\ I64 (4 : Int)) /\ ∀ v46, v46 = numF v35 (4 : Int) -> ∀ v47, v47 = IntKind.i64.wrap (v30.fst + (1 : Int)) -> ∀ v48, v48 = IntKind.u64.wrap v47 -> (!decide (v48 = (0 : Int))) = true /\ ∀ v49, v49 = v46.tmod v48 -> ∀ v50, v50 = IntKind.i64.wrap v49 -> (U64 v35 /\ I64 (5 : Int)) /\ ∀ v51, v51 = numF v35 (5 : Int) -> ∀ v52, v52 = v51.tmod (8589934592 : Int) -> ∀ v53, v53 = IntKind.i64.wrap v52 -> (U64 v35 /\ I64 (8 : Int)) /\ ∀ v54, v54 = numF v35 (8 : Int) -> ∀ v55, v55 = v54.tmod (200 : Int) -> ∀ v56, v56 = IntKind.i64.wrap v55 -> (U64 v35 /\ I64 (6 : Int)) /\ ∀ v57, v57 = numF v35 (6 : Int) -> ∀ v58, v58 = v57.tmod (4 : Int) -> ∀ v59, v59 = (v58 == (0 : Int)) -> (v59 = true -> (U64 v35 /\ I64 (7 : Int)) /\ ∀ v60, v60 = numF v35 (7 : Int) -> ∀ v61, v61 = IntKind.u8.wrap v60 -> ∀ (v62 : ByteArray), v62 = mkBytes [v61] -> (v30.fst = v30.fst /\ (v30.fst + (1 : Int)) * (64 : Int) ≤ (140737488355328 : Int) /\ v30.fst + (1 : Int) ≤ (140737488355328 : Int)) /\ ∀ (v63 : Int -> Int), v63 = updF v30.snd.fst v30.fst v39 -> ∀ (v64 : Int -> Int), v64 = updF v30.snd.snd.fst v30.fst v42 -> ∀ (v65 : Int -> Int), v65 = updF v30.snd.snd.snd.fst v30.fst v45 -> ∀ (v66 : Int -> Int), v66 = updF v30.snd.snd.snd.snd.fst v30.fst v50 -> ∀ (v67 : Int -> Int), v67 = updF v30.snd.snd.snd.snd.snd.fst v30.fst v53 -> ∀ (v68 : Int -> ByteArray), v68 = updF v30.snd.snd.snd.snd.snd.snd.fst v30.fst v62 -> ∀ (v69 : Int -> Int), v69 = updF v30.snd.snd.snd.snd.snd.snd.snd v30.fst v56 -> ∀ v70, v70 = v30.fst + (1 : Int) -> ∀ v71, v71 = IntKind.i64.wrap (v30.fst + (1 : Int)) -> ∃ (x72 : Int × (Int -> Int) × (Int -> Int) × (Int -> Int) × (Int -> Int) × (Int -> Int) × (Int -> ByteArray) × (Int -> Int)), mvR s (cntF n) x72.fst x72.snd.fst x72.snd.snd.fst x72.snd.snd.snd.fst x72.snd.snd.snd.snd.fst x72.snd.snd.snd.snd.snd.fst x72.snd.snd.snd.snd.snd.snd.fst x72.snd.snd.snd.snd.snd.snd.snd /\ ((s = s /\ n = n /\ (v70 = x72.fst /\ True) /\ v71 = x72.fst /\ True) /\ (v7 = v7 /\ v10 = v10 /\ v13 = v13 /\ v16 = v16 /\ v19 = v19 /\ v28 = v28 /\ v22 = v22 /\ True) /\ (v27 = v27 /\ True) /\ (v7 = v7 /\ v10 = v10 /\ v13 = v13 /\ v16 = v16 /\ v19 = v19 /\ v28 = v28 /\ v22 = v22 /\ True) /\ (v70 = x72.fst /\ (∀ (v73 : Int), (0 : Int) ≤ v73 -> v73 < x72.fst -> v63 v73 = x72.snd.fst v73) /\ (∀ (v74 : Int), (0 : Int) ≤ v74 -> v74 < x72.fst -> v64 v74 = x72.snd.snd.fst v74) /\ (∀ (v75 : Int), (0 : Int) ≤ v75 -> v75 < x72.fst -> v65 v75 = x72.snd.snd.snd.fst v75) /\ (∀ (v76 : Int), (0 : Int) ≤ v76 -> v76 < x72.fst -> v66 v76 = x72.snd.snd.snd.snd.fst v76) /\ (∀ (v77 : Int), (0 : Int) ≤ v77 -> v77 < x72.fst -> v67 v77 = x72.snd.snd.snd.snd.snd.fst v77) /\ (∀ (v78 : Int), (0 : Int) ≤ v78 -> v78 < x72.fst -> v68 v78 = x72.snd.snd.snd.snd.snd.snd.fst v78) /\ (∀ (v79 : Int), (0 : Int) ≤ v79 -> v79 < x72.fst -> v69 v79 = x72.snd.snd.snd.snd.snd.snd.snd v79) /\ True) /\ True) /\ ((64 : Int) - x72.fst).toNat < ((64 : Int) - v30.fst).toNat) /\ (v59 = false -> (v30.fst = v30.fst /\ (v30.fst + (1 : Int)) * (64 : Int) ≤ (140737488355328 : Int) /\ v30.fst + (1 : Int) ≤ (140737488355328 : Int)) /\ ∀ (v80 : Int -> Int), v80 = updF v30.snd.fst v30.fst v39 -> ∀ (v81 : Int -> Int), v81 = updF v30.snd.snd.fst v30.fst v42 -> ∀ (v82 : Int -> Int), v82 = updF v30.snd.snd.snd.fst v30.fst v45 -> ∀ (v83 : Int -> Int), v83 = updF v30.snd.snd.snd.snd.fst v30.fst v50 -> ∀ (v84 : Int -> Int), v84 = updF v30.snd.snd.snd.snd.snd.fst v30.fst v53 -> ∀ (v85 : Int -> ByteArray), v85 = updF v30.snd.snd.snd.snd.snd.snd.fst v30.fst (bytesL []) -> ∀ (v86 : Int -> Int), v86 = updF v30.snd.snd.snd.snd.snd.snd.snd v30.fst v56 -> ∀ v87, v87 = v30.fst + (1 : Int) -> ∀ v88, v88 = IntKind.i64.wrap (v30.fst + (1 : Int)) -> ∃ (x89 : Int × (Int -> Int) × (Int -> Int) × (Int -> Int) × (Int -> Int) × (Int -> Int) × (Int -> ByteArray) × (Int -> Int)), mvR s (cntF n) x89.fst x89.snd.fst x89.snd.snd.fst x89.snd.snd.snd.fst x89.snd.snd.snd.snd.fst x89.snd.snd.snd.snd.snd.fst x89.snd.snd.snd.snd.snd.snd.fst x89.snd.snd.snd.snd.snd.snd.snd /\ ((s = s /\ n = n /\ (v87 = x89.fst /\ True) /\ v88 = x89.fst /\ True) /\ (v7 = v7 /\ v10 = v10 /\ v13 = v13 /\ v16 = v16 /\ v19 = v19 /\ v28 = v28 /\ v22 = v22 /\ True) /\ (v27 = v27 /\ True) /\ (v7 = v7 /\ v10 = v10 /\ v13 = v13 /\ v16 = v16 /\ v19 = v19 /\ v28 = v28 /\ v22 = v22 /\ True) /\ (v87 = x89.fst /\ (∀ (v90 : Int), (0 : Int) ≤ v90 -> v90 < x89.fst -> v80 v90 = x89.snd.fst v90) /\ (∀ (v91 : Int), (0 : Int) ≤ v91 -> v91 < x89.fst -> v81 v91 = x89.snd.snd.fst v91) /\ (∀ (v92 : Int), (0 : Int) ≤ v92 -> v92 < x89.fst -> v82 v92 = x89.snd.snd.snd.fst v92) /\ (∀ (v93 : Int), (0 : Int) ≤ v93 -> v93 < x89.fst -> v83 v93 = x89.snd.snd.snd.snd.fst v93) /\ (∀ (v94 : Int), (0 : Int) ≤ v94 -> v94 < x89.fst -> v84 v94 = x89.snd.snd.snd.snd.snd.fst v94) /\ (∀ (v95 : Int), (0 : Int) ≤ v95 -> v95 < x89.fst -> v85 v95 = x89.snd.snd.snd.snd.snd.snd.fst v95) /\ (∀ (v96 : Int), (0 : Int) ≤ v96 -> v96 < x89.fst -> v86 v96 = x89.snd.snd.snd.snd.snd.snd.snd v96) /\ True) /\ True) /\ ((64 : Int) - x89.fst).toNat < ((64 : Int) - v30.fst).toNat)) /\ (v32 = false -> (v30.fst = cntF n /\ (0 : Int) ≤ cntF n) /\ (v30.fst = cntF n /\ (∀ (v97 : Int), (0 : Int) ≤ v97 -> v97 < cntF n -> v30.snd.fst v97 = mvK s v97) /\ (∀ (v98 : Int), (0 : Int) ≤ v98 -> v98 < cntF n -> v30.snd.snd.fst v98 = mvA s v98) /\ (∀ (v99 : Int), (0 : Int) ≤ v99 -> v99 < cntF n -> v30.snd.snd.snd.fst v99 = mvB s v99) /\ (∀ (v100 : Int), (0 : Int) ≤ v100 -> v100 < cntF n -> v30.snd.snd.snd.snd.fst v100 = mvP s v100) /\ (∀ (v101 : Int), (0 : Int) ≤ v101 -> v101 < cntF n -> v30.snd.snd.snd.snd.snd.fst v101 = mvN s v101) /\ (∀ (v102 : Int), (0 : Int) ≤ v102 -> v102 < cntF n -> v30.snd.snd.snd.snd.snd.snd.fst v102 = mvT s v102) /\ (∀ (v103 : Int), (0 : Int) ≤ v103 -> v103 < cntF n -> v30.snd.snd.snd.snd.snd.snd.snd v103 = mvO s v103) /\ True) /\ True)) /\ (v31 = false -> (v30.fst = cntF n /\ (0 : Int) ≤ cntF n) /\ (v30.fst = cntF n /\ (∀ (v104 : Int), (0 : Int) ≤ v104 -> v104 < cntF n -> v30.snd.fst v104 = mvK s v104) /\ (∀ (v105 : Int), (0 : Int) ≤ v105 -> v105 < cntF n -> v30.snd.snd.fst v105 = mvA s v105) /\ (∀ (v106 : Int), (0 : Int) ≤ v106 -> v106 < cntF n -> v30.snd.snd.snd.fst v106 = mvB s v106) /\ (∀ (v107 : Int), (0 : Int) ≤ v107 -> v107 < cntF n -> v30.snd.snd.snd.snd.fst v107 = mvP s v107) /\ (∀ (v108 : Int), (0 : Int) ≤ v108 -> v108 < cntF n -> v30.snd.snd.snd.snd.snd.fst v108 = mvN s v108) /\ (∀ (v109 : Int), (0 : Int) ≤ v109 -> v109 < cntF n -> v30.snd.snd.snd.snd.snd.snd.fst v109 = mvT s v109) /\ (∀ (v110 : Int), (0 : Int) ≤ v110 -> v110 < cntF n -> v30.snd.snd.snd.snd.snd.snd.snd v110 = mvO s v110) /\ True) /\ True)) /\ (v25 = false -> (∃ (x111 : Int × (Int -> Int) × (Int -> Int) × (Int -> Int) × (Int -> Int) × (Int -> Int) × (Int -> ByteArray) × (Int -> Int)), mvR s (cntF n) x111.fst x111.snd.fst x111.snd.snd.fst x111.snd.snd.snd.fst x111.snd.snd.snd.snd.fst x111.snd.snd.snd.snd.snd.fst x111.snd.snd.snd.snd.snd.snd.fst x111.snd.snd.snd.snd.snd.snd.snd /\ (s = s /\ n = n /\ ((1 : Int) = x111.fst /\ True) /\ (1 : Int) = x111.fst /\ True) /\ (v7 = v7 /\ v10 = v10 /\ v13 = v13 /\ v16 = v16 /\ v19 = v19 /\ bytesL [] = bytesL [] /\ v22 = v22 /\ True) /\ (v7 = v7 /\ v10 = v10 /\ v13 = v13 /\ v16 = v16 /\ v19 = v19 /\ bytesL [] = bytesL [] /\ v22 = v22 /\ True) /\ (x111.fst * (7 : Int) = (7 : Int) /\ v7 = x111.snd.fst (0 : Int) /\ v10 = x111.snd.snd.fst (0 : Int) /\ v13 = x111.snd.snd.snd.fst (0 : Int) /\ v16 = x111.snd.snd.snd.snd.fst (0 : Int) /\ v19 = x111.snd.snd.snd.snd.snd.fst (0 : Int) /\ bytesL [] = x111.snd.snd.snd.snd.snd.snd.fst (0 : Int) /\ v22 = x111.snd.snd.snd.snd.snd.snd.snd (0 : Int) /\ True) /\ True) /\ ∀ (v112 : Int × (Int -> Int) × (Int -> Int) × (Int -> Int) × (Int -> Int) × (Int -> Int) × (Int -> ByteArray) × (Int -> Int)), mvR s (cntF n) v112.fst v112.snd.fst v112.snd.snd.fst v112.snd.snd.snd.fst v112.snd.snd.snd.snd.fst v112.snd.snd.snd.snd.snd.fst v112.snd.snd.snd.snd.snd.snd.fst v112.snd.snd.snd.snd.snd.snd.snd -> ∀ v113, v113 = decide (v112.fst < n) -> (v113 = true -> ∀ v114, v114 = decide (v112.fst < (64 : Int)) -> (v114 = true -> ∀ v115, v115 = IntKind.u64.wrap v112.fst -> ∀ v116, v116 = IntKind.u64.wrap (s + v115) -> U64 v116 /\ ∀ v117, v117 = mixF v116 -> (U64 v117 /\ I64 (1 : Int)) /\ ∀ v118, v118 = numF v117 (1 : Int) -> ∀ v119, v119 = v118.tmod (11 : Int) -> ∀ v120, v120 = IntKind.i64.wrap v119 -> ∀ v121, v121 = IntKind.i64.wrap (v120 + (1 : Int)) -> (U64 v117 /\ I64 (2 : Int)) /\ ∀ v122, v122 = numF v117 (2 : Int) -> ∀ v123, v123 = v122.tmod (2 : Int) -> ∀ v124, v124 = IntKind.i64.wrap v123 -> (U64 v117 /\ I64 (3 : Int)) /\ ∀ v125, v125 = numF v117 (3 : Int) -> ∀ v126, v126 = v125.tmod (3 : Int) -> ∀ v127, v127 = IntKind.i64.wrap v126 -> (U64 v117 /\ I64 (4 : Int)) /\ ∀ v128, v128 = numF v117 (4 : Int) -> ∀ v129, v129 = IntKind.i64.wrap (v112.fst + (1 : Int)) -> ∀ v130, v130 = IntKind.u64.wrap v129 -> (!decide (v130 = (0 : Int))) = true /\ ∀ v131, v131 = v128.tmod v130 -> ∀ v132, v132 = IntKind.i64.wrap v131 -> (U64 v117 /\ I64 (5 : Int)) /\ ∀ v133, v133 = numF v117 (5 : Int) -> ∀ v134, v134 = v133.tmod (8589934592 : Int) -> ∀ v135, v135 = IntKind.i64.wrap v134 -> (U64 v117 /\ I64 (8 : Int)) /\ ∀ v136, v136 = numF v117 (8 : Int) -> ∀ v137, v137 = v136.tmod (200 : Int) -> ∀ v138, v138 = IntKind.i64.wrap v137 -> (U64 v117 /\ I64 (6 : Int)) /\ ∀ v139, v139 = numF v117 (6 : Int) -> ∀ v140, v140 = v139.tmod (4 : Int) -> ∀ v141, v141 = (v140 == (0 : Int)) -> (v141 = true -> (U64 v117 /\ I64 (7 : Int)) /\ ∀ v142, v142 = numF v117 (7 : Int) -> ∀ v143, v143 = IntKind.u8.wrap v142 -> ∀ (v144 : ByteArray), v144 = mkBytes [v143] -> (v112.fst = v112.fst /\ (v112.fst + (1 : Int)) * (64 : Int) ≤ (140737488355328 : Int) /\ v112.fst + (1 : Int) ≤ (140737488355328 : Int)) /\ ∀ (v145 : Int -> Int), v145 = updF v112.snd.fst v112.fst v121 -> ∀ (v146 : Int -> Int), v146 = updF v112.snd.snd.fst v112.fst v124 -> ∀ (v147 : Int -> Int), v147 = updF v112.snd.snd.snd.fst v112.fst v127 -> ∀ (v148 : Int -> Int), v148 = updF v112.snd.snd.snd.snd.fst v112.fst v132 -> ∀ (v149 : Int -> Int), v149 = updF v112.snd.snd.snd.snd.snd.fst v112.fst v135 -> ∀ (v150 : Int -> ByteArray), v150 = updF v112.snd.snd.snd.snd.snd.snd.fst v112.fst v144 -> ∀ (v151 : Int -> Int), v151 = updF v112.snd.snd.snd.snd.snd.snd.snd v112.fst v138 -> ∀ v152, v152 = v112.fst + (1 : Int) -> ∀ v153, v153 = IntKind.i64.wrap (v112.fst + (1 : Int)) -> ∃ (x154 : Int × (Int -> Int) × (Int -> Int) × (Int -> Int) × (Int -> Int) × (Int -> Int) × (Int -> ByteArray) × (Int -> Int)), mvR s (cntF n) x154.fst x154.snd.fst x154.snd.snd.fst x154.snd.snd.snd.fst x154.snd.snd.snd.snd.fst x154.snd.snd.snd.snd.snd.fst x154.snd.snd.snd.snd.snd.snd.fst x154.snd.snd.snd.snd.snd.snd.snd /\ ((s = s /\ n = n /\ (v152 = x154.fst /\ True) /\ v153 = x154.fst /\ True) /\ (v7 = v7 /\ v10 = v10 /\ v13 = v13 /\ v16 = v16 /\ v19 = v19 /\ bytesL [] = bytesL [] /\ v22 = v22 /\ True) /\ (v7 = v7 /\ v10 = v10 /\ v13 = v13 /\ v16 = v16 /\ v19 = v19 /\ bytesL [] = bytesL [] /\ v22 = v22 /\ True) /\ (v152 = x154.fst /\ (∀ (v155 : Int), (0 : Int) ≤ v155 -> v155 < x154.fst -> v145 v155 = x154.snd.fst v155) /\ (∀ (v156 : Int), (0 : Int) ≤ v156 -> v156 < x154.fst -> v146 v156 = x154.snd.snd.fst v156) /\ (∀ (v157 : Int), (0 : Int) ≤ v157 -> v157 < x154.fst -> v147 v157 = x154.snd.snd.snd.fst v157) /\ (∀ (v158 : Int), (0 : Int) ≤ v158 -> v158 < x154.fst -> v148 v158 = x154.snd.snd.snd.snd.fst v158) /\ (∀ (v159 : Int), (0 : Int) ≤ v159 -> v159 < x154.fst -> v149 v159 = x154.snd.snd.snd.snd.snd.fst v159) /\ (∀ (v160 : Int), (0 : Int) ≤ v160 -> v160 < x154.fst -> v150 v160 = x154.snd.snd.snd.snd.snd.snd.fst v160) /\ (∀ (v161 : Int), (0 : Int) ≤ v161 -> v161 < x154.fst -> v151 v161 = x154.snd.snd.snd.snd.snd.snd.snd v161) /\ True) /\ True) /\ ((64 : Int) - x154.fst).toNat < ((64 : Int) - v112.fst).toNat) /\ (v141 = false -> (v112.fst = v112.fst /\ (v112.fst + (1 : Int)) * (64 : Int) ≤ (140737488355328 : Int) /\ v112.fst + (1 : Int) ≤ (140737488355328 : Int)) /\ ∀ (v162 : Int -> Int), v162 = updF v112.snd.fst v112.fst v121 -> ∀ (v163 : Int -> Int), v163 = updF v112.snd.snd.fst v112.fst v124 -> ∀ (v164 : Int -> Int), v164 = updF v112.snd.snd.snd.fst v112.fst v127 -> ∀ (v165 : Int -> Int), v165 = updF v112.snd.snd.snd.snd.fst v112.fst v132 -> ∀ (v166 : Int -> Int), v166 = updF v112.snd.snd.snd.snd.snd.fst v112.fst v135 -> ∀ (v167 : Int -> ByteArray), v167 = updF v112.snd.snd.snd.snd.snd.snd.fst v112.fst (bytesL []) -> ∀ (v168 : Int -> Int), v168 = updF v112.snd.snd.snd.snd.snd.snd.snd v112.fst v138 -> ∀ v169, v169 = v112.fst + (1 : Int) -> ∀ v170, v170 = IntKind.i64.wrap (v112.fst + (1 : Int)) -> ∃ (x171 : Int × (Int -> Int) × (Int -> Int) × (Int -> Int) × (Int -> Int) × (Int -> Int) × (Int -> ByteArray) × (Int -> Int)), mvR s (cntF n) x171.fst x171.snd.fst x171.snd.snd.fst x171.snd.snd.snd.fst x171.snd.snd.snd.snd.fst x171.snd.snd.snd.snd.snd.fst x171.snd.snd.snd.snd.snd.snd.fst x171.snd.snd.snd.snd.snd.snd.snd /\ ((s = s /\ n = n /\ (v169 = x171.fst /\ True) /\ v170 = x171.fst /\ True) /\ (v7 = v7 /\ v10 = v10 /\ v13 = v13 /\ v16 = v16 /\ v19 = v19 /\ bytesL [] = bytesL [] /\ v22 = v22 /\ True) /\ (v7 = v7 /\ v10 = v10 /\ v13 = v13 /\ v16 = v16 /\ v19 = v19 /\ bytesL [] = bytesL [] /\ v22 = v22 /\ True) /\ (v169 = x171.fst /\ (∀ (v172 : Int), (0 : Int) ≤ v172 -> v172 < x171.fst -> v162 v172 = x171.snd.fst v172) /\ (∀ (v173 : Int), (0 : Int) ≤ v173 -> v173 < x171.fst -> v163 v173 = x171.snd.snd.fst v173) /\ (∀ (v174 : Int), (0 : Int) ≤ v174 -> v174 < x171.fst -> v164 v174 = x171.snd.snd.snd.fst v174) /\ (∀ (v175 : Int), (0 : Int) ≤ v175 -> v175 < x171.fst -> v165 v175 = x171.snd.snd.snd.snd.fst v175) /\ (∀ (v176 : Int), (0 : Int) ≤ v176 -> v176 < x171.fst -> v166 v176 = x171.snd.snd.snd.snd.snd.fst v176) /\ (∀ (v177 : Int), (0 : Int) ≤ v177 -> v177 < x171.fst -> v167 v177 = x171.snd.snd.snd.snd.snd.snd.fst v177) /\ (∀ (v178 : Int), (0 : Int) ≤ v178 -> v178 < x171.fst -> v168 v178 = x171.snd.snd.snd.snd.snd.snd.snd v178) /\ True) /\ True) /\ ((64 : Int) - x171.fst).toNat < ((64 : Int) - v112.fst).toNat)) /\ (v114 = false -> (v112.fst = cntF n /\ (0 : Int) ≤ cntF n) /\ (v112.fst = cntF n /\ (∀ (v179 : Int), (0 : Int) ≤ v179 -> v179 < cntF n -> v112.snd.fst v179 = mvK s v179) /\ (∀ (v180 : Int), (0 : Int) ≤ v180 -> v180 < cntF n -> v112.snd.snd.fst v180 = mvA s v180) /\ (∀ (v181 : Int), (0 : Int) ≤ v181 -> v181 < cntF n -> v112.snd.snd.snd.fst v181 = mvB s v181) /\ (∀ (v182 : Int), (0 : Int) ≤ v182 -> v182 < cntF n -> v112.snd.snd.snd.snd.fst v182 = mvP s v182) /\ (∀ (v183 : Int), (0 : Int) ≤ v183 -> v183 < cntF n -> v112.snd.snd.snd.snd.snd.fst v183 = mvN s v183) /\ (∀ (v184 : Int), (0 : Int) ≤ v184 -> v184 < cntF n -> v112.snd.snd.snd.snd.snd.snd.fst v184 = mvT s v184) /\ (∀ (v185 : Int), (0 : Int) ≤ v185 -> v185 < cntF n -> v112.snd.snd.snd.snd.snd.snd.snd v185 = mvO s v185) /\ True) /\ True)) /\ (v113 = false -> (v112.fst = cntF n /\ (0 : Int) ≤ cntF n) /\ (v112.fst = cntF n /\ (∀ (v186 : Int), (0 : Int) ≤ v186 -> v186 < cntF n -> v112.snd.fst v186 = mvK s v186) /\ (∀ (v187 : Int), (0 : Int) ≤ v187 -> v187 < cntF n -> v112.snd.snd.fst v187 = mvA s v187) /\ (∀ (v188 : Int), (0 : Int) ≤ v188 -> v188 < cntF n -> v112.snd.snd.snd.fst v188 = mvB s v188) /\ (∀ (v189 : Int), (0 : Int) ≤ v189 -> v189 < cntF n -> v112.snd.snd.snd.snd.fst v189 = mvP s v189) /\ (∀ (v190 : Int), (0 : Int) ≤ v190 -> v190 < cntF n -> v112.snd.snd.snd.snd.snd.fst v190 = mvN s v190) /\ (∀ (v191 : Int), (0 : Int) ≤ v191 -> v191 < cntF n -> v112.snd.snd.snd.snd.snd.snd.fst v191 = mvT s v191) /\ (∀ (v192 : Int), (0 : Int) ≤ v192 -> v192 < cntF n -> v112.snd.snd.snd.snd.snd.snd.snd v192 = mvO s v192) /\ True) /\ True))) /\ (v1 = false -> False)
theorem tieRMoves (w0 : World) (s : Int) (n : Int) : VCRMoves s n = ((recN (GR Try.prog movsSpec [] [] [] movAnnSpec [] [] movPeelSpec [] [] w0) 60).call 14 [.int .u64 (.sym s), .int .i64 (.sym n)] [] (fun r__ h__ => eqR h__ r__ [.s (cntF n) [.int .i64 (mvK s), .int .i64 (mvA s), .int .i64 (mvB s), .int .i64 (mvP s), .int .i64 (mvN s), .str (mvT s), .int .i64 (mvO s)] 36])) := by kernel_rfl
theorem pureRMoves (w0 : World) (s n : Int) (h : U64 s ∧ I64 n ∧ 1 ≤ n) (hm : True) : VCRMoves s n := by
  obtain ⟨hs, hn, n1⟩ := h
  have hcn := cnt_in n1
  unfold VCRMoves
  refine br (fun c0 => ?_) fun c0 => absurd c0 (by omega)
  rintro _ rfl
  refine ⟨u64_in _, ?_⟩
  intro x hx0
  have hx : x = xS s 0 := hx0.trans (xS_zero s)
  have xU : U64 x := by rw [hx]; exact mix_in _
  refine ⟨⟨xU, by decide⟩, ?_⟩
  rintro _ rfl v18 h18 v19 h19 v20 h20
  refine ⟨⟨xU, by decide⟩, ?_⟩
  rintro _ rfl v21 h21 v22 h22
  refine ⟨⟨xU, by decide⟩, ?_⟩
  rintro _ rfl v23 h23 v24 h24
  refine ⟨⟨xU, by decide⟩, ?_⟩
  rintro _ rfl v25 h25 v26 h26
  refine ⟨⟨xU, by decide⟩, ?_⟩
  rintro _ rfl v27 h27 v28 h28
  refine ⟨⟨xU, by decide⟩, ?_⟩
  rintro _ rfl v29 h29 v30 h30
  refine ⟨⟨xU, by decide⟩, ?_⟩
  rintro _ rfl v31 h31
  rw [Int.add_comm] at h20
  have eK := mvK_of hx h18 h19 h20
  have eA : v22 = mvA s 0 := by rw [md_of (num_in x 2) (by decide) (by decide) h21 h22, hx]; rfl
  have eB : v24 = mvB s 0 := by rw [md_of (num_in x 3) (by decide) (by decide) h23 h24, hx]; rfl
  have eP : v26 = mvP s 0 := by rw [md_of (num_in x 4) (by decide) (by decide) h25 h26, hx]; rfl
  have eN : v28 = mvN s 0 := by rw [md_of (num_in x 5) (by decide) (by decide) h27 h28, hx]; rfl
  have eO : v30 = mvO s 0 := by rw [md_of (num_in x 8) (by decide) (by decide) h29 h30, hx]; rfl
  refine brE (fun z => ⟨⟨xU, by decide⟩, ?_⟩) fun z => ?_
  · rintro _ rfl v33 h33 v34 h34
    have eT := mvT_yes hx h31 z h33 h34
    refine ⟨⟨(1, _, _, _, _, _, _, _), mvR_first (by omega) eK eA eB eP eN eT eO, by simp⟩, ?_⟩
    rintro ⟨i, a, b, c, d, e, t, o⟩ hR
    dsimp only at hR ⊢
    have i0 := hR.1
    have w5 : IntKind.i64.wrap (i + 1) = i + 1 := i64_id (by omega) (by omega)
    rw [w5]
    refine br (fun ci => br (fun c64 => ?_) fun c64 => ?_) fun ci => ?_
    · have ci2 : i < cntF n := by unfold cntF; omega
      rintro _ rfl _ rfl
      refine ⟨u64_in _, ?_⟩
      intro x hx0
      have hx : x = xS s i := hx0
      have xU : U64 x := by rw [hx]; exact mix_in _
      refine ⟨⟨xU, by decide⟩, ?_⟩
      rintro _ rfl v53 h53 v54 h54 v55 h55
      refine ⟨⟨xU, by decide⟩, ?_⟩
      rintro _ rfl v56 h56 v57 h57
      refine ⟨⟨xU, by decide⟩, ?_⟩
      rintro _ rfl v58 h58 v59 h59
      refine ⟨⟨xU, by decide⟩, ?_⟩
      rintro _ rfl v60 h60 v61 h61
      refine ⟨nz (by omega) (by omega) h61, ?_⟩
      intro v62 h62 v63 h63
      refine ⟨⟨xU, by decide⟩, ?_⟩
      rintro _ rfl v64 h64 v65 h65
      refine ⟨⟨xU, by decide⟩, ?_⟩
      rintro _ rfl v66 h66 v67 h67
      refine ⟨⟨xU, by decide⟩, ?_⟩
      rintro _ rfl v68 h68
      rw [Int.add_comm] at h55
      have eK := mvK_of hx h53 h54 h55
      have eA : v57 = mvA s i := by rw [md_of (num_in x 2) (by decide) (by decide) h56 h57, hx]; rfl
      have eB : v59 = mvB s i := by rw [md_of (num_in x 3) (by decide) (by decide) h58 h59, hx]; rfl
      have eP := mvP_of (by omega) (by omega) hx h60 h61 h62 h63
      have eN : v65 = mvN s i := by rw [md_of (num_in x 5) (by decide) (by decide) h64 h65, hx]; rfl
      have eO : v67 = mvO s i := by rw [md_of (num_in x 8) (by decide) (by decide) h66 h67, hx]; rfl
      refine brE (fun z => ⟨⟨xU, by decide⟩, ?_⟩) fun z => ?_
      · rintro _ rfl v70 h70 v71 h71
        have eT := mvT_yes hx h68 z h70 h71
        refine ⟨⟨rfl, by omega, by omega⟩, ?_⟩
        rintro _ rfl _ rfl _ rfl _ rfl _ rfl _ rfl _ rfl _ rfl _ rfl
        exact ⟨(i + 1, updF a i v55, updF b i v57, updF c i v59, updF d i v63, updF e i v65, updF t i v71, updF o i v67), mvR_step hR ci2 eK eA eB eP eN eT eO, by simp, by dsimp only; omega⟩
      · have eT := mvT_no hx h68 z
        refine ⟨⟨rfl, by omega, by omega⟩, ?_⟩
        rintro _ rfl _ rfl _ rfl _ rfl _ rfl _ rfl _ rfl _ rfl _ rfl
        exact ⟨(i + 1, updF a i v55, updF b i v57, updF c i v59, updF d i v63, updF e i v65, updF t i (bytesL []), updF o i v67), mvR_step hR ci2 eK eA eB eP eN eT eO, by simp, by dsimp only; omega⟩
    · have ec : i = cntF n := by unfold cntF at *; omega
      subst ec
      exact ⟨⟨rfl, by omega⟩, ⟨rfl, fun j a b => (hR.2 j a b).1, fun j a b => (hR.2 j a b).2.1, fun j a b => (hR.2 j a b).2.2.1, fun j a b => (hR.2 j a b).2.2.2.1, fun j a b => (hR.2 j a b).2.2.2.2.1, fun j a b => (hR.2 j a b).2.2.2.2.2.1, fun j a b => (hR.2 j a b).2.2.2.2.2.2, trivial⟩, trivial⟩
    · have ec : i = cntF n := by unfold cntF at *; omega
      subst ec
      exact ⟨⟨rfl, by omega⟩, ⟨rfl, fun j a b => (hR.2 j a b).1, fun j a b => (hR.2 j a b).2.1, fun j a b => (hR.2 j a b).2.2.1, fun j a b => (hR.2 j a b).2.2.2.1, fun j a b => (hR.2 j a b).2.2.2.2.1, fun j a b => (hR.2 j a b).2.2.2.2.2.1, fun j a b => (hR.2 j a b).2.2.2.2.2.2, trivial⟩, trivial⟩
  · have eT := mvT_no hx h31 z
    refine ⟨⟨(1, _, _, _, _, _, _, _), mvR_first (by omega) eK eA eB eP eN eT eO, by simp⟩, ?_⟩
    rintro ⟨i, a, b, c, d, e, t, o⟩ hR
    dsimp only at hR ⊢
    have i0 := hR.1
    have w5 : IntKind.i64.wrap (i + 1) = i + 1 := i64_id (by omega) (by omega)
    rw [w5]
    refine br (fun ci => br (fun c64 => ?_) fun c64 => ?_) fun ci => ?_
    · have ci2 : i < cntF n := by unfold cntF; omega
      rintro _ rfl _ rfl
      refine ⟨u64_in _, ?_⟩
      intro x hx0
      have hx : x = xS s i := hx0
      have xU : U64 x := by rw [hx]; exact mix_in _
      refine ⟨⟨xU, by decide⟩, ?_⟩
      rintro _ rfl v53 h53 v54 h54 v55 h55
      refine ⟨⟨xU, by decide⟩, ?_⟩
      rintro _ rfl v56 h56 v57 h57
      refine ⟨⟨xU, by decide⟩, ?_⟩
      rintro _ rfl v58 h58 v59 h59
      refine ⟨⟨xU, by decide⟩, ?_⟩
      rintro _ rfl v60 h60 v61 h61
      refine ⟨nz (by omega) (by omega) h61, ?_⟩
      intro v62 h62 v63 h63
      refine ⟨⟨xU, by decide⟩, ?_⟩
      rintro _ rfl v64 h64 v65 h65
      refine ⟨⟨xU, by decide⟩, ?_⟩
      rintro _ rfl v66 h66 v67 h67
      refine ⟨⟨xU, by decide⟩, ?_⟩
      rintro _ rfl v68 h68
      rw [Int.add_comm] at h55
      have eK := mvK_of hx h53 h54 h55
      have eA : v57 = mvA s i := by rw [md_of (num_in x 2) (by decide) (by decide) h56 h57, hx]; rfl
      have eB : v59 = mvB s i := by rw [md_of (num_in x 3) (by decide) (by decide) h58 h59, hx]; rfl
      have eP := mvP_of (by omega) (by omega) hx h60 h61 h62 h63
      have eN : v65 = mvN s i := by rw [md_of (num_in x 5) (by decide) (by decide) h64 h65, hx]; rfl
      have eO : v67 = mvO s i := by rw [md_of (num_in x 8) (by decide) (by decide) h66 h67, hx]; rfl
      refine brE (fun z => ⟨⟨xU, by decide⟩, ?_⟩) fun z => ?_
      · rintro _ rfl v70 h70 v71 h71
        have eT := mvT_yes hx h68 z h70 h71
        refine ⟨⟨rfl, by omega, by omega⟩, ?_⟩
        rintro _ rfl _ rfl _ rfl _ rfl _ rfl _ rfl _ rfl _ rfl _ rfl
        exact ⟨(i + 1, updF a i v55, updF b i v57, updF c i v59, updF d i v63, updF e i v65, updF t i v71, updF o i v67), mvR_step hR ci2 eK eA eB eP eN eT eO, by simp, by dsimp only; omega⟩
      · have eT := mvT_no hx h68 z
        refine ⟨⟨rfl, by omega, by omega⟩, ?_⟩
        rintro _ rfl _ rfl _ rfl _ rfl _ rfl _ rfl _ rfl _ rfl _ rfl
        exact ⟨(i + 1, updF a i v55, updF b i v57, updF c i v59, updF d i v63, updF e i v65, updF t i (bytesL []), updF o i v67), mvR_step hR ci2 eK eA eB eP eN eT eO, by simp, by dsimp only; omega⟩
    · have ec : i = cntF n := by unfold cntF at *; omega
      subst ec
      exact ⟨⟨rfl, by omega⟩, ⟨rfl, fun j a b => (hR.2 j a b).1, fun j a b => (hR.2 j a b).2.1, fun j a b => (hR.2 j a b).2.2.1, fun j a b => (hR.2 j a b).2.2.2.1, fun j a b => (hR.2 j a b).2.2.2.2.1, fun j a b => (hR.2 j a b).2.2.2.2.2.1, fun j a b => (hR.2 j a b).2.2.2.2.2.2, trivial⟩, trivial⟩
    · have ec : i = cntF n := by unfold cntF at *; omega
      subst ec
      exact ⟨⟨rfl, by omega⟩, ⟨rfl, fun j a b => (hR.2 j a b).1, fun j a b => (hR.2 j a b).2.1, fun j a b => (hR.2 j a b).2.2.1, fun j a b => (hR.2 j a b).2.2.2.1, fun j a b => (hR.2 j a b).2.2.2.2.1, fun j a b => (hR.2 j a b).2.2.2.2.2.1, fun j a b => (hR.2 j a b).2.2.2.2.2.2, trivial⟩, trivial⟩
theorem rMoves_ok : SpecOkR Try.prog 14 rMovesSpec := by
  intro args k h
  unfold rMovesSpec at h
  split at h
  · rename_i s n
    obtain ⟨hr, h⟩ := h
    refine ⟨_, h _ rfl _ rfl _ rfl _ rfl _ rfl _ rfl _ rfl _ rfl, fun w0 args' he0 hm => ?_⟩
    obtain ⟨_, rfl, he1⟩ := eqBL_i he0
    obtain ⟨_, rfl, he2⟩ := eqBL_i he1
    obtain rfl := eqBL_n he2
    exact RunOk.of_tie (GR Try.prog movsSpec [] [] [] movAnnSpec [] [] movPeelSpec [] []) (fun w__ => gokR w__ namesOk_ mixed_ movs_ok trivial trivial trivial) (fun _ => rfl) (fun _ => rfl) (args' := [.int .u64 (.sym s.val), .int .i64 (.sym n.val)]) ⟨⟨rfl, rfl⟩, ⟨rfl, rfl⟩, trivial⟩ 60 (fun w__ => VCRMoves s.val n.val) (fun w__ => tieRMoves w__ s.val n.val) hm (fun w__ hm__ => pureRMoves w__ s.val n.val hr hm__)
  · exact h.elim

end Go.Proofs.Ytifbolmkiafmgaa.A
