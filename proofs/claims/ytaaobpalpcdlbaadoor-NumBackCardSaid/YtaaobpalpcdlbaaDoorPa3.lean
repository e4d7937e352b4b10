import Derived.Test.YtaaobpalpcdlbaaDoorSxR
import Derived.Test.YtaaobpalpcdlbaaDoorProg
import Derived.Test.YtaaobpalpcdlbaaDoorPa2
import Derived.Test.YtaaobpalpcdlbaaDoorDv4
import Derived.Test.YtaaobpalpcdlbaaDoorByt
import Derived.KernelRfl
namespace Go.Proofs.YtaaobpalpcdlbaaDoor.Bits
open Go Go.Sx Go.RowKit
set_option linter.unusedVariables false
set_option linter.unusedSimpArgs false
set_option maxRecDepth 100000
def rpCapSpec (S : St) (t : Nat) : SN := match nth S.ts t with | .slice _ _ _ c => c | .fsl _ _ c => c | _ => .lit 0
def rpR (s : ByteArray) (i e n : Int) (f : Int → Int) : Prop := s.size = 64 ∧ (i = 2 * n ∧ 1 ≤ n ∧ n ≤ 32) ∧ ((e = 0 ∧ ∀ j, 0 ≤ j → j < n → 0 ≤ hxF (byteAt s (2 * j)) ∧ 0 ≤ hxF (byteAt s (2 * j + 1)) ∧ f j = 16 * hxF (byteAt s (2 * j)) + hxF (byteAt s (2 * j + 1))) ∨ (e = 10 ∧ ∃ j : Nat, j < 64 ∧ hxF (byteAt s (j : Int)) < 0))
def rpASpec : St → Inv := fun S =>
  { ι := Int × Int × Int × (Int → Int)
    T := fun p => stS (keepS (setF S (slBSpec S 5) p.2.2.1 [.int .u8 p.2.2.2]) [0, 2, 3]) [(4, .int .i64 (.sym p.2.1)), (5, .fsl (slBSpec S 5) p.2.2.1 (rpCapSpec S 5)), (6, .int .i64 (.sym p.1))]
    R := fun p => rpR (strAtSpec S 0) p.1 p.2.1 p.2.2.1 p.2.2.2
    μ := fun p => ((strAtSpec S 0).size - p.1).toNat }
def rpAnnSpec : Anns := [(24, 0, rpASpec)]
def rpCutSpec : Anns := []
def rpSplSpec : Spls := []
def rpPeelSpec : List (FuncId × Nat) := [(24, 0)]
def pa3Spec : List (FuncId × CSpec) := [(50, hxSpec), (26, rFromBigSpec)]
theorem pa3_ok : SpecsOk Tryd.prog pa3Spec := ⟨hx_ok, rFromBig_ok, trivial⟩
--@PLAIN
theorem hx_dg (s : ByteArray) (i : Int) : hxF (byteAt s i) = dgF s i := by
  have key : ∀ c : Fin 256, hxF (c.val : Int) = ixF dgs (c.val : Int) := by decide +kernel
  have b := byteAt_in s i
  have := key ⟨(byteAt s i).toNat, by omega⟩
  rw [show (((⟨(byteAt s i).toNat, by omega⟩ : Fin 256).val : Nat) : Int) = byteAt s i from Int.toNat_of_nonneg b.1] at this
  exact this
theorem hx_in (c : Int) : -1 ≤ hxF c ∧ hxF c ≤ 15 := by unfold hxF; (repeat' split) <;> omega
theorem rpFirst {s : ByteArray} {f : Int → Int} (hs : s.size = 64) (h0 : 0 ≤ hxF (byteAt s 0)) (h1 : 0 ≤ hxF (byteAt s 1)) (hf : f 0 = 16 * hxF (byteAt s 0) + hxF (byteAt s 1)) : rpR s 2 0 1 f :=
  ⟨hs, by omega, Or.inl ⟨rfl, fun j a b => by
    obtain rfl : j = 0 := by omega
    exact ⟨h0, h1, hf⟩⟩⟩
theorem rpFirstB {s : ByteArray} {f : Int → Int} (hs : s.size = 64) (j : Nat) (hj : j < 64) (h : hxF (byteAt s (j : Int)) < 0) : rpR s 2 10 1 f := ⟨hs, by omega, Or.inr ⟨rfl, j, hj, h⟩⟩
theorem rpGood {s : ByteArray} {i e n x y v : Int} {f : Int → Int} (h : rpR s i e n f) (he : e = 0) (hi : i + 1 < 64) (hx : x = hxF (byteAt s i)) (hy : y = hxF (byteAt s (i + 1))) (x0 : 0 ≤ x) (y0 : 0 ≤ y) (hv : v = 16 * x + y) : rpR s (i + 2) e (n + 1) (updF f n v) := by
  obtain ⟨hs, ⟨a, b, c⟩, d⟩ := h
  have d := d.resolve_right (fun z => by omega)
  refine ⟨hs, by omega, Or.inl ⟨he, fun j j0 j1 => ?_⟩⟩
  unfold updF
  split
  · rename_i hj
    subst hj
    rw [← a, ← hx, ← hy]; exact ⟨x0, y0, hv⟩
  · exact d.2 j j0 (by omega)
theorem rpBad {s : ByteArray} {i e n : Int} {f g : Int → Int} (h : rpR s i e n f) (hi : i + 1 < 64) {x : Int} {j : Int} (hx : x = hxF (byteAt s j)) (hj : j = i ∨ j = i + 1) (h0 : x < 0) : rpR s (i + 2) 10 (n + 1) g := by
  obtain ⟨hs, ⟨a, b, c⟩, d⟩ := h
  refine ⟨hs, by omega, Or.inr ⟨rfl, j.toNat, by omega, ?_⟩⟩
  rw [Int.toNat_of_nonneg (by omega), ← hx]; exact h0
def rParseSpec : CSpec
  | [.str s], k => ((s.val.size ≤ 140737488355328)) ∧ (∀ r0 : Int, r0 = (paF s.val) → ∀ r1 : Int, r1 = (paE s.val) → k (.tup [.agg [.int .u64 (.sym (limb r0 0)), .int .u64 (.sym (limb r0 1)), .int .u64 (.sym (limb r0 2)), .int .u64 (.sym (limb r0 3))], .int .i64 (.sym r1)]))
  | _, _ => False
def VCRParse (s : ByteArray) : Prop :=
  ∀ (v1 : Int), v1 = ↑s.size -> ∀ v2, v2 = decide (v1 < (64 : Int)) -> (v2 = true -> ∀ (v3 : Int), v3 = ↑s.size -> ∀ v4, v4 = decide ((1 : Int) < v3) -> (v4 = true -> ((IntKind.u64 = IntKind.u64 /\ 0 = limb (paF s) 0) /\ (IntKind.u64 = IntKind.u64 /\ 0 = limb (paF s) 1) /\ (IntKind.u64 = IntKind.u64 /\ 0 = limb (paF s) 2) /\ (IntKind.u64 = IntKind.u64 /\ 0 = limb (paF s) 3) /\ True) /\ (IntKind.i64 = IntKind.i64 /\ (11 : Int) = paE s) /\ True) /\ (v4 = false -> ((IntKind.u64 = IntKind.u64 /\ 0 = limb (paF s) 0) /\ (IntKind.u64 = IntKind.u64 /\ 0 = limb (paF s) 1) /\ (IntKind.u64 = IntKind.u64 /\ 0 = limb (paF s) 2) /\ (IntKind.u64 = IntKind.u64 /\ 0 = limb (paF s) 3) /\ True) /\ (IntKind.i64 = IntKind.i64 /\ (11 : Int) = paE s) /\ True)) /\ (v2 = false -> ∀ (v5 : Int), v5 = ↑s.size -> ∀ v6, v6 = decide (v5 > (64 : Int)) -> (v6 = true -> ∀ (v7 : Int), v7 = ↑s.size -> ∀ v8, v8 = decide ((1 : Int) < v7) -> (v8 = true -> ((IntKind.u64 = IntKind.u64 /\ 0 = limb (paF s) 0) /\ (IntKind.u64 = IntKind.u64 /\ 0 = limb (paF s) 1) /\ (IntKind.u64 = IntKind.u64 /\ 0 = limb (paF s) 2) /\ (IntKind.u64 = IntKind.u64 /\ 0 = limb (paF s) 3) /\ True) /\ (IntKind.i64 = IntKind.i64 /\ (12 : Int) = paE s) /\ True) /\ (v8 = false -> ((IntKind.u64 = IntKind.u64 /\ 0 = limb (paF s) 0) /\ (IntKind.u64 = IntKind.u64 /\ 0 = limb (paF s) 1) /\ (IntKind.u64 = IntKind.u64 /\ 0 = limb (paF s) 2) /\ (IntKind.u64 = IntKind.u64 /\ 0 = limb (paF s) 3) /\ True) /\ (IntKind.i64 = IntKind.i64 /\ (12 : Int) = paE s) /\ True)) /\ (v6 = false -> ∀ (v9 : Int), v9 = ↑s.size -> ∀ v10, v10 = decide ((1 : Int) < v9) -> (v10 = true -> ((0 : Int) ≤ (0 : Int) /\ (0 : Int) < ↑s.size) /\ ∀ v11, v11 = byteAt s (0 : Int) -> U8 v11 /\ ∀ v12, v12 = hxF v11 -> ((0 : Int) ≤ (1 : Int) /\ (1 : Int) < ↑s.size) /\ ∀ v13, v13 = byteAt s (1 : Int) -> U8 v13 /\ ∀ v14, v14 = hxF v13 -> ∀ v15, v15 = decide (v12 < (0 : Int)) -> (v15 = false -> ∀ v16, v16 = decide (v14 < (0 : Int)) -> (v16 = true -> ∀ v17, v17 = IntKind.i64.wrap ((16 : Int) * v12) -> ∀ v18, v18 = IntKind.i64.wrap (v17 + v14) -> ∀ v19, v19 = IntKind.u8.wrap v18 -> (∃ (x20 : Int × Int × Int × (Int -> Int)), rpR s x20.fst x20.snd.fst x20.snd.snd.fst x20.snd.snd.snd /\ (s = s /\ True /\ (0 : Int) = (0 : Int) /\ (10 : Int) = x20.snd.fst /\ ((1 : Int) = x20.snd.snd.fst /\ True) /\ (2 : Int) = x20.fst /\ True) /\ ((0 : Int) = (0 : Int) /\ (0 : Int) = (0 : Int) /\ (0 : Int) = (0 : Int) /\ (0 : Int) = (0 : Int) /\ True) /\ (v19 = v19 /\ True) /\ (x20.snd.snd.fst * (1 : Int) = (1 : Int) /\ v19 = x20.snd.snd.snd (0 : Int) /\ True) /\ True) /\ ∀ (v21 : Int × Int × Int × (Int -> Int)), rpR s v21.fst v21.snd.fst v21.snd.snd.fst v21.snd.snd.snd -> ∀ v22, v22 = IntKind.i64.wrap (v21.fst + (1 : Int)) -> ∀ (v23 : Int), v23 = ↑s.size -> ∀ v24, v24 = decide (v22 < v23) -> (v24 = true -> ∀ v25, v25 = (v21.snd.fst == (0 : Int)) -> (v25 = true -> ((0 : Int) ≤ v21.fst /\ v21.fst < ↑s.size) /\ ∀ v26, v26 = byteAt s v21.fst -> U8 v26 /\ ∀ v27, v27 = hxF v26 -> ∀ v28, v28 = IntKind.i64.wrap (v21.fst + (1 : Int)) -> ((0 : Int) ≤ v28 /\ v28 < ↑s.size) /\ ∀ v29, v29 = byteAt s v28 -> U8 v29 /\ ∀ v30, v30 = hxF v29 -> ∀ v31, v31 = decide (v27 < (0 : Int)) -> (v31 = false -> ∀ v32, v32 = decide (v30 < (0 : Int)) -> (v32 = true -> ∀ v33, v33 = IntKind.i64.wrap ((16 : Int) * v27) -> ∀ v34, v34 = IntKind.i64.wrap (v33 + v30) -> ∀ v35, v35 = IntKind.u8.wrap v34 -> (v21.snd.snd.fst = v21.snd.snd.fst /\ (v21.snd.snd.fst + (1 : Int)) * (1 : Int) ≤ (140737488355328 : Int) /\ v21.snd.snd.fst + (1 : Int) ≤ (140737488355328 : Int)) /\ ∀ (v36 : Int -> Int), v36 = updF v21.snd.snd.snd v21.snd.snd.fst v35 -> ∀ v37, v37 = v21.snd.snd.fst + (1 : Int) -> ∀ v38, v38 = IntKind.i64.wrap (v21.fst + (2 : Int)) -> ∃ (x39 : Int × Int × Int × (Int -> Int)), rpR s x39.fst x39.snd.fst x39.snd.snd.fst x39.snd.snd.snd /\ ((s = s /\ True /\ (0 : Int) = (0 : Int) /\ (10 : Int) = x39.snd.fst /\ (v37 = x39.snd.snd.fst /\ True) /\ v38 = x39.fst /\ True) /\ ((0 : Int) = (0 : Int) /\ (0 : Int) = (0 : Int) /\ (0 : Int) = (0 : Int) /\ (0 : Int) = (0 : Int) /\ True) /\ (v19 = v19 /\ True) /\ (v37 = x39.snd.snd.fst /\ (∀ (v40 : Int), (0 : Int) ≤ v40 -> v40 < x39.snd.snd.fst -> v36 v40 = x39.snd.snd.snd v40) /\ True) /\ True) /\ (↑s.size - x39.fst).toNat < (↑s.size - v21.fst).toNat) /\ (v32 = false -> ∀ v41, v41 = IntKind.i64.wrap ((16 : Int) * v27) -> ∀ v42, v42 = IntKind.i64.wrap (v41 + v30) -> ∀ v43, v43 = IntKind.u8.wrap v42 -> (v21.snd.snd.fst = v21.snd.snd.fst /\ (v21.snd.snd.fst + (1 : Int)) * (1 : Int) ≤ (140737488355328 : Int) /\ v21.snd.snd.fst + (1 : Int) ≤ (140737488355328 : Int)) /\ ∀ (v44 : Int -> Int), v44 = updF v21.snd.snd.snd v21.snd.snd.fst v43 -> ∀ v45, v45 = v21.snd.snd.fst + (1 : Int) -> ∀ v46, v46 = IntKind.i64.wrap (v21.fst + (2 : Int)) -> ∃ (x47 : Int × Int × Int × (Int -> Int)), rpR s x47.fst x47.snd.fst x47.snd.snd.fst x47.snd.snd.snd /\ ((s = s /\ True /\ (0 : Int) = (0 : Int) /\ v21.snd.fst = x47.snd.fst /\ (v45 = x47.snd.snd.fst /\ True) /\ v46 = x47.fst /\ True) /\ ((0 : Int) = (0 : Int) /\ (0 : Int) = (0 : Int) /\ (0 : Int) = (0 : Int) /\ (0 : Int) = (0 : Int) /\ True) /\ (v19 = v19 /\ True) /\ (v45 = x47.snd.snd.fst /\ (∀ (v48 : Int), (0 : Int) ≤ v48 -> v48 < x47.snd.snd.fst -> v44 v48 = x47.snd.snd.snd v48) /\ True) /\ True) /\ (↑s.size - x47.fst).toNat < (↑s.size - v21.fst).toNat)) /\ (v31 = true -> ∀ v49, v49 = IntKind.i64.wrap ((16 : Int) * v27) -> ∀ v50, v50 = IntKind.i64.wrap (v49 + v30) -> ∀ v51, v51 = IntKind.u8.wrap v50 -> (v21.snd.snd.fst = v21.snd.snd.fst /\ (v21.snd.snd.fst + (1 : Int)) * (1 : Int) ≤ (140737488355328 : Int) /\ v21.snd.snd.fst + (1 : Int) ≤ (140737488355328 : Int)) /\ ∀ (v52 : Int -> Int), v52 = updF v21.snd.snd.snd v21.snd.snd.fst v51 -> ∀ v53, v53 = v21.snd.snd.fst + (1 : Int) -> ∀ v54, v54 = IntKind.i64.wrap (v21.fst + (2 : Int)) -> ∃ (x55 : Int × Int × Int × (Int -> Int)), rpR s x55.fst x55.snd.fst x55.snd.snd.fst x55.snd.snd.snd /\ ((s = s /\ True /\ (0 : Int) = (0 : Int) /\ (10 : Int) = x55.snd.fst /\ (v53 = x55.snd.snd.fst /\ True) /\ v54 = x55.fst /\ True) /\ ((0 : Int) = (0 : Int) /\ (0 : Int) = (0 : Int) /\ (0 : Int) = (0 : Int) /\ (0 : Int) = (0 : Int) /\ True) /\ (v19 = v19 /\ True) /\ (v53 = x55.snd.snd.fst /\ (∀ (v56 : Int), (0 : Int) ≤ v56 -> v56 < x55.snd.snd.fst -> v52 v56 = x55.snd.snd.snd v56) /\ True) /\ True) /\ (↑s.size - x55.fst).toNat < (↑s.size - v21.fst).toNat)) /\ (v25 = false -> ∀ v57, v57 = (v21.snd.fst != (0 : Int)) -> (v57 = true -> ((IntKind.u64 = IntKind.u64 /\ 0 = limb (paF s) 0) /\ (IntKind.u64 = IntKind.u64 /\ 0 = limb (paF s) 1) /\ (IntKind.u64 = IntKind.u64 /\ 0 = limb (paF s) 2) /\ (IntKind.u64 = IntKind.u64 /\ 0 = limb (paF s) 3) /\ True) /\ (IntKind.i64 = IntKind.i64 /\ v21.snd.fst = paE s) /\ True) /\ (v57 = false -> ((0 : Int) ≤ v21.snd.snd.fst /\ v21.snd.snd.fst ≤ v21.snd.snd.fst) /\ ∀ (v58 : ByteArray), v58 = fbytes v21.snd.snd.snd v21.snd.snd.fst -> v58.size ≤ 140737488355328 /\ ∀ v59, v59 = beF v58 -> ∀ v60, v60 = erF ↑v58.size (32 : Int) -> ((IntKind.u64 = IntKind.u64 /\ limb v59 0 = limb (paF s) 0) /\ (IntKind.u64 = IntKind.u64 /\ limb v59 1 = limb (paF s) 1) /\ (IntKind.u64 = IntKind.u64 /\ limb v59 2 = limb (paF s) 2) /\ (IntKind.u64 = IntKind.u64 /\ limb v59 3 = limb (paF s) 3) /\ True) /\ (IntKind.i64 = IntKind.i64 /\ v60 = paE s) /\ True))) /\ (v24 = false -> ∀ v61, v61 = (v21.snd.fst != (0 : Int)) -> (v61 = true -> ((IntKind.u64 = IntKind.u64 /\ 0 = limb (paF s) 0) /\ (IntKind.u64 = IntKind.u64 /\ 0 = limb (paF s) 1) /\ (IntKind.u64 = IntKind.u64 /\ 0 = limb (paF s) 2) /\ (IntKind.u64 = IntKind.u64 /\ 0 = limb (paF s) 3) /\ True) /\ (IntKind.i64 = IntKind.i64 /\ v21.snd.fst = paE s) /\ True) /\ (v61 = false -> ((0 : Int) ≤ v21.snd.snd.fst /\ v21.snd.snd.fst ≤ v21.snd.snd.fst) /\ ∀ (v62 : ByteArray), v62 = fbytes v21.snd.snd.snd v21.snd.snd.fst -> v62.size ≤ 140737488355328 /\ ∀ v63, v63 = beF v62 -> ∀ v64, v64 = erF ↑v62.size (32 : Int) -> ((IntKind.u64 = IntKind.u64 /\ limb v63 0 = limb (paF s) 0) /\ (IntKind.u64 = IntKind.u64 /\ limb v63 1 = limb (paF s) 1) /\ (IntKind.u64 = IntKind.u64 /\ limb v63 2 = limb (paF s) 2) /\ (IntKind.u64 = IntKind.u64 /\ limb v63 3 = limb (paF s) 3) /\ True) /\ (IntKind.i64 = IntKind.i64 /\ v64 = paE s) /\ True))) /\ (v16 = false -> ∀ v65, v65 = IntKind.i64.wrap ((16 : Int) * v12) -> ∀ v66, v66 = IntKind.i64.wrap (v65 + v14) -> ∀ v67, v67 = IntKind.u8.wrap v66 -> (∃ (x68 : Int × Int × Int × (Int -> Int)), rpR s x68.fst x68.snd.fst x68.snd.snd.fst x68.snd.snd.snd /\ (s = s /\ True /\ (0 : Int) = (0 : Int) /\ (0 : Int) = x68.snd.fst /\ ((1 : Int) = x68.snd.snd.fst /\ True) /\ (2 : Int) = x68.fst /\ True) /\ ((0 : Int) = (0 : Int) /\ (0 : Int) = (0 : Int) /\ (0 : Int) = (0 : Int) /\ (0 : Int) = (0 : Int) /\ True) /\ (v67 = v67 /\ True) /\ (x68.snd.snd.fst * (1 : Int) = (1 : Int) /\ v67 = x68.snd.snd.snd (0 : Int) /\ True) /\ True) /\ ∀ (v69 : Int × Int × Int × (Int -> Int)), rpR s v69.fst v69.snd.fst v69.snd.snd.fst v69.snd.snd.snd -> ∀ v70, v70 = IntKind.i64.wrap (v69.fst + (1 : Int)) -> ∀ (v71 : Int), v71 = ↑s.size -> ∀ v72, v72 = decide (v70 < v71) -> (v72 = true -> ∀ v73, v73 = (v69.snd.fst == (0 : Int)) -> (v73 = true -> ((0 : Int) ≤ v69.fst /\ v69.fst < ↑s.size) /\ ∀ v74, v74 = byteAt s v69.fst -> U8 v74 /\ ∀ v75, v75 = hxF v74 -> ∀ v76, v76 = IntKind.i64.wrap (v69.fst + (1 : Int)) -> ((0 : Int) ≤ v76 /\ v76 < ↑s.size) /\ ∀ v77, v77 = byteAt s v76 -> U8 v77 /\ ∀ v78, v78 = hxF v77 -> ∀ v79, v79 = decide (v75 < (0 : Int)) -> (v79 = false -> ∀ v80, v80 = decide (v78 < (0 : Int)) -> (v80 = true -> ∀ v81, v81 = IntKind.i64.wrap ((16 : Int) * v75) -> ∀ v82, v82 = IntKind.i64.wrap (v81 + v78) -> ∀ v83, v83 = IntKind.u8.wrap v82 -> (v69.snd.snd.fst = v69.snd.snd.fst /\ (v69.snd.snd.fst + (1 : Int)) * (1 : Int) ≤ (140737488355328 : Int) /\ v69.snd.snd.fst + (1 : Int) ≤ (140737488355328 : Int)) /\ ∀ (v84 : Int -> Int), v84 = updF v69.snd.snd.snd v69.snd.snd.fst v83 -> ∀ v85, v85 = v69.snd.snd.fst + (1 : Int) -> ∀ v86, v86 = IntKind.i64.wrap (v69.fst + (2 : Int)) -> ∃ (x87 : Int × Int × Int × (Int -> Int)), rpR s x87.fst x87.snd.fst x87.snd.snd.fst x87.snd.snd.snd /\ ((s = s /\ True /\ (0 : Int) = (0 : Int) /\ (10 : Int) = x87.snd.fst /\ (v85 = x87.snd.snd.fst /\ True) /\ v86 = x87.fst /\ True) /\ ((0 : Int) = (0 : Int) /\ (0 : Int) = (0 : Int) /\ (0 : Int) = (0 : Int) /\ (0 : Int) = (0 : Int) /\ True) /\ (v67 = v67 /\ True) /\ (v85 = x87.snd.snd.fst /\ (∀ (v88 : Int), (0 : Int) ≤ v88 -> v88 < x87.snd.snd.fst -> v84 v88 = x87.snd.snd.snd v88) /\ True) /\ True) /\ (↑s.size - x87.fst).toNat < (↑s.size - v69.fst).toNat) /\ (v80 = false -> ∀ v89, v89 = IntKind.i64.wrap ((16 : Int) * v75) -> ∀ v90, v90 = IntKind.i64.wrap (v89 + v78) -> ∀ v91, v91 = IntKind.u8.wrap v90 -> (v69.snd.snd.fst = v69.snd.snd.fst /\ (v69.snd.snd.fst + (1 : Int)) * (1 : Int) ≤ (140737488355328 : Int) /\ v69.snd.snd.fst + (1 : Int) ≤ (140737488355328 : Int)) /\ ∀ (v92 : Int -> Int), v92 = updF v69.snd.snd.snd v69.snd.snd.fst v91 -> ∀ v93, v93 = v69.snd.snd.fst + (1 : Int) -> ∀ v94, v94 = IntKind.i64.wrap (v69.fst + (2 : Int)) -> ∃ (x95 : Int × Int × Int × (Int -> Int)), rpR s x95.fst x95.snd.fst x95.snd.snd.fst x95.snd.snd.snd /\ ((s = s /\ True /\ (0 : Int) = (0 : Int) /\ v69.snd.fst = x95.snd.fst /\ (v93 = x95.snd.snd.fst /\ True) /\ v94 = x95.fst /\ True) /\ ((0 : Int) = (0 : Int) /\ (0 : Int) = (0 : Int) /\ (0 : Int) = (0 : Int) /\ (0 : Int) = (0 : Int) /\ True) /\ (v67 = v67 /\ True) /\ (v93 = x95.snd.snd.fst /\ (∀ (v96 : Int), (0 : Int) ≤ v96 -> v96 < x95.snd.snd.fst -> v92 v96 = x95.snd.snd.snd v96) /\ True) /\ True) /\ (↑s.size - x95.fst).toNat < (↑s.size - v69.fst).toNat)) /\ (v79 = true -> ∀ v97, v97 = IntKind.i64.wrap ((16 : Int) * v75) -> ∀ v98, v98 = IntKind.i64.wrap (v97 + v78) -> ∀ v99, v99 = IntKind.u8.wrap v98 -> (v69.snd.snd.fst = v69.snd.snd.fst /\ (v69.snd.snd.fst + (1 : Int)) * (1 : Int) ≤ (140737488355328 : Int) /\ v69.snd.snd.fst + (1 : Int) ≤ (140737488355328 : Int)) /\ ∀ (v100 : Int -> Int), v100 = updF v69.snd.snd.snd v69.snd.snd.fst v99 -> ∀ v101, v101 = v69.snd.snd.fst + (1 : Int) -> ∀ v102, v102 = IntKind.i64.wrap (v69.fst + (2 : Int)) -> ∃ (x103 : Int × Int × Int × (Int -> Int)), rpR s x103.fst x103.snd.fst x103.snd.snd.fst x103.snd.snd.snd /\ ((s = s /\ True /\ (0 : Int) = (0 : Int) /\ (10 : Int) = x103.snd.fst /\ (v101 = x103.snd.snd.fst /\ True) /\ v102 = x103.fst /\ True) /\ ((0 : Int) = (0 : Int) /\ (0 : Int) = (0 : Int) /\ (0 : Int) = (0 : Int) /\ (0 : Int) = (0 : Int) /\ True) /\ (v67 = v67 /\ True) /\ (v101 = x103.snd.snd.fst /\ (∀ (v104 : Int), (0 : Int) ≤ v104 -> v104 < x103.snd.snd.fst -> v100 v104 = x103.snd.snd.snd v104) /\ True) /\ True) /\ (↑s.size - x103.fst).toNat < (↑s.size - v69.fst).toNat)) /\ (v73 = false -> ∀ v105, v105 = (v69.snd.fst != (0 : Int)) -> (v105 = true -> ((IntKind.u64 = IntKind.u64 /\ 0 = limb (paF s) 0) /\ (IntKind.u64 = IntKind.u64 /\ 0 = limb (paF s) 1) /\ (IntKind.u64 = IntKind.u64 /\ 0 = limb (paF s) 2) /\ (IntKind.u64 = IntKind.u64 /\ 0 = limb (paF s) 3) /\ True) /\ (IntKind.i64 = IntKind.i64 /\ v69.snd.fst = paE s) /\ True) /\ (v105 = false -> ((0 : Int) ≤ v69.snd.snd.fst /\ v69.snd.snd.fst ≤ v69.snd.snd.fst) /\ ∀ (v106 : ByteArray), v106 = fbytes v69.snd.snd.snd v69.snd.snd.fst -> v106.size ≤ 140737488355328 /\ ∀ v107, v107 = beF v106 -> ∀ v108, v108 = erF ↑v106.size (32 : Int) -> ((IntKind.u64 = IntKind.u64 /\ limb v107 0 = limb (paF s) 0) /\ (IntKind.u64 = IntKind.u64 /\ limb v107 1 = limb (paF s) 1) /\ (IntKind.u64 = IntKind.u64 /\ limb v107 2 = limb (paF s) 2) /\ (IntKind.u64 = IntKind.u64 /\ limb v107 3 = limb (paF s) 3) /\ True) /\ (IntKind.i64 = IntKind.i64 /\ v108 = paE s) /\ True))) /\ (v72 = false -> ∀ v109, v109 = (v69.snd.fst != (0 : Int)) -> (v109 = true -> ((IntKind.u64 = IntKind.u64 /\ 0 = limb (paF s) 0) /\ (IntKind.u64 = IntKind.u64 /\ 0 = limb (paF s) 1) /\ (IntKind.u64 = IntKind.u64 /\ 0 = limb (paF s) 2) /\ (IntKind.u64 = IntKind.u64 /\ 0 = limb (paF s) 3) /\ True) /\ (IntKind.i64 = IntKind.i64 /\ v69.snd.fst = paE s) /\ True) /\ (v109 = false -> ((0 : Int) ≤ v69.snd.snd.fst /\ v69.snd.snd.fst ≤ v69.snd.snd.fst) /\ ∀ (v110 : ByteArray), v110 = fbytes v69.snd.snd.snd v69.snd.snd.fst -> v110.size ≤ 140737488355328 /\ ∀ v111, v111 = beF v110 -> ∀ v112, v112 = erF ↑v110.size (32 : Int) -> ((IntKind.u64 = IntKind.u64 /\ limb v111 0 = limb (paF s) 0) /\ (IntKind.u64 = IntKind.u64 /\ limb v111 1 = limb (paF s) 1) /\ (IntKind.u64 = IntKind.u64 /\ limb v111 2 = limb (paF s) 2) /\ (IntKind.u64 = IntKind.u64 /\ limb v111 3 = limb (paF s) 3) /\ True) /\ (IntKind.i64 = IntKind.i64 /\ v112 = paE s) /\ True)))) /\ (v15 = true -> ∀ v113, v113 = IntKind.i64.wrap ((16 : Int) * v12) -> ∀ v114, v114 = IntKind.i64.wrap (v113 + v14) -> ∀ v115, v115 = IntKind.u8.wrap v114 -> (∃ (x116 : Int × Int × Int × (Int -> Int)), rpR s x116.fst x116.snd.fst x116.snd.snd.fst x116.snd.snd.snd /\ (s = s /\ True /\ (0 : Int) = (0 : Int) /\ (10 : Int) = x116.snd.fst /\ ((1 : Int) = x116.snd.snd.fst /\ True) /\ (2 : Int) = x116.fst /\ True) /\ ((0 : Int) = (0 : Int) /\ (0 : Int) = (0 : Int) /\ (0 : Int) = (0 : Int) /\ (0 : Int) = (0 : Int) /\ True) /\ (v115 = v115 /\ True) /\ (x116.snd.snd.fst * (1 : Int) = (1 : Int) /\ v115 = x116.snd.snd.snd (0 : Int) /\ True) /\ True) /\ ∀ (v117 : Int × Int × Int × (Int -> Int)), rpR s v117.fst v117.snd.fst v117.snd.snd.fst v117.snd.snd.snd -> ∀ v118, v118 = IntKind.i64.wrap (v117.fst + (1 : Int)) -> ∀ (v119 : Int), v119 = ↑s.size -> ∀ v120, v120 = decide (v118 < v119) -> (v120 = true -> ∀ v121, v121 = (v117.snd.fst == (0 : Int)) -> (v121 = true -> ((0 : Int) ≤ v117.fst /\ v117.fst < ↑s.size) /\ ∀ v122, v122 = byteAt s v117.fst -> U8 v122 /\ ∀ v123, v123 = hxF v122 -> ∀ v124, v124 = IntKind.i64.wrap (v117.fst + (1 : Int)) -> ((0 : Int) ≤ v124 /\ v124 < ↑s.size) /\ ∀ v125, v125 = byteAt s v124 -> U8 v125 /\ ∀ v126, v126 = hxF v125 -> ∀ v127, v127 = decide (v123 < (0 : Int)) -> (v127 = false -> ∀ v128, v128 = decide (v126 < (0 : Int)) -> (v128 = true -> ∀ v129, v129 = IntKind.i64.wrap ((16 : Int) * v123) -> ∀ v130, v130 = IntKind.i64.wrap (v129 + v126) -> ∀ v131, v131 = IntKind.u8.wrap v130 -> (v117.snd.snd.fst = v117.snd.snd.fst /\ (v117.snd.snd.fst + (1 : Int)) * (1 : Int) ≤ (140737488355328 : Int) /\ v117.snd.snd.fst + (1 : Int) ≤ (140737488355328 : Int)) /\ ∀ (v132 : Int -> Int), v132 = updF v117.snd.snd.snd v117.snd.snd.fst v131 -> ∀ v133, v133 = v117.snd.snd.fst + (1 : Int) -> ∀ v134, v134 = IntKind.i64.wrap (v117.fst + (2 : Int)) -> ∃ (x135 : Int × Int × Int × (Int -> Int)), rpR s x135.fst x135.snd.fst x135.snd.snd.fst x135.snd.snd.snd /\ ((s = s /\ True /\ (0 : Int) = (0 : Int) /\ (10 : Int) = x135.snd.fst /\ (v133 = x135.snd.snd.fst /\ True) /\ v134 = x135.fst /\ True) /\ ((0 : Int) = (0 : Int) /\ (0 : Int) = (0 : Int) /\ (0 : Int) = (0 : Int) /\ (0 : Int) = (0 : Int) /\ True) /\ (v115 = v115 /\ True) /\ (v133 = x135.snd.snd.fst /\ (∀ (v136 : Int), (0 : Int) ≤ v136 -> v136 < x135.snd.snd.fst -> v132 v136 = x135.snd.snd.snd v136) /\ True) /\ True) /\ (↑s.size - x135.fst).toNat < (↑s.size - v117.fst).toNat) /\ (v128 = false -> ∀ v137, v137 = IntKind.i64.wrap ((16 : Int) * v123) -> ∀ v138, v138 = IntKind.i64.wrap (v137 + v126) -> ∀ v139, v139 = IntKind.u8.wrap v138 -> (v117.snd.snd.fst = v117.snd.snd.fst /\ (v117.snd.snd.fst + (1 : Int)) * (1 : Int) ≤ (140737488355328 : Int) /\ v117.snd.snd.fst + (1 : Int) ≤ (140737488355328 : Int)) /\ ∀ (v140 : Int -> Int), v140 = updF v117.snd.snd.snd v117.snd.snd.fst v139 -> ∀ v141, v141 = v117.snd.snd.fst + (1 : Int) -> ∀ v142, v142 = IntKind.i64.wrap (v117.fst + (2 : Int)) -> ∃ (x143 : Int × Int × Int × (Int -> Int)), rpR s x143.fst x143.snd.fst x143.snd.snd.fst x143.snd.snd.snd /\ ((s = s /\ True /\ (0 : Int) = (0 : Int) /\ v117.snd.fst = x143.snd.fst /\ (v141 = x143.snd.snd.fst /\ True) /\ v142 = x143.fst /\ True) /\ ((0 : Int) = (0 : Int) /\ (0 : Int) = (0 : Int) /\ (0 : Int) = (0 : Int) /\ (0 : Int) = (0 : Int) /\ True) /\ (v115 = v115 /\ True) /\ (v141 = x143.snd.snd.fst /\ (∀ (v144 : Int), (0 : Int) ≤ v144 -> v144 < x143.snd.snd.fst -> v140 v144 = x143.snd.snd.snd v144) /\ True) /\ True) /\ (↑s.size - x143.fst).toNat < (↑s.size - v117.fst).toNat)) /\ (v127 = true -> ∀ v145, v145 = IntKind.i64.wrap ((16 : Int) * v123) -> ∀ v146, v146 = IntKind.i64.wrap (v145 + v126) -> ∀ v147, v147 = IntKind.u8.wrap v146 -> (v117.snd.snd.fst = v117.snd.snd.fst /\ (v117.snd.snd.fst + (1 : Int)) * (1 : Int) ≤ (140737488355328 : Int) /\ v117.snd.snd.fst + (1 : Int) ≤ (140737488355328 : Int)) /\ ∀ (v148 : Int -> Int), v148 = updF v117.snd.snd.snd v117.snd.snd.fst v147 -> ∀ v149, v149 = v117.snd.snd.fst + (1 : Int) -> ∀ v150, v150 = IntKind.i64.wrap (v117.fst + (2 : Int)) -> ∃ (x151 : Int × Int × Int × (Int -> Int)), rpR s x151.fst x151.snd.fst x151.snd.snd.fst x151.snd.snd.snd /\ ((s = s /\ True /\ (0 : Int) = (0 : Int) /\ (10 : Int) = x151.snd.fst /\ (v149 = x151.snd.snd.fst /\ True) /\ v150 = x151.fst /\ True) /\ ((0 : Int) = (0 : Int) /\ (0 : Int) = (0 : Int) /\ (0 : Int) = (0 : Int) /\ (0 : Int) = (0 : Int) /\ True) /\ (v115 = v115 /\ True) /\ (v149 = x151.snd.snd.fst /\ (∀ (v152 : Int), (0 : Int) ≤ v152 -> v152 < x151.snd.snd.fst -> v148 v152 = x151.snd.snd.snd v152) /\ True) /\ True) /\ (↑s.size - x151.fst).toNat < (↑s.size - v117.fst).toNat)) /\ (v121 = false -> ∀ v153, v153 = (v117.snd.fst != (0 : Int)) -> (v153 = true -> ((IntKind.u64 = IntKind.u64 /\ 0 = limb (paF s) 0) /\ (IntKind.u64 = IntKind.u64 /\ 0 = limb (paF s) 1) /\ (IntKind.u64 = IntKind.u64 /\ 0 = limb (paF s) 2) /\ (IntKind.u64 = IntKind.u64 /\ 0 = limb (paF s) 3) /\ True) /\ (IntKind.i64 = IntKind.i64 /\ v117.snd.fst = paE s) /\ True) /\ (v153 = false -> ((0 : Int) ≤ v117.snd.snd.fst /\ v117.snd.snd.fst ≤ v117.snd.snd.fst) /\ ∀ (v154 : ByteArray), v154 = fbytes v117.snd.snd.snd v117.snd.snd.fst -> v154.size ≤ 140737488355328 /\ ∀ v155, v155 = beF v154 -> ∀ v156, v156 = erF ↑v154.size (32 : Int) -> ((IntKind.u64 = IntKind.u64 /\ limb v155 0 = limb (paF s) 0) /\ (IntKind.u64 = IntKind.u64 /\ limb v155 1 = limb (paF s) 1) /\ (IntKind.u64 = IntKind.u64 /\ limb v155 2 = limb (paF s) 2) /\ (IntKind.u64 = IntKind.u64 /\ limb v155 3 = limb (paF s) 3) /\ True) /\ (IntKind.i64 = IntKind.i64 /\ v156 = paE s) /\ True))) /\ (v120 = false -> ∀ v157, v157 = (v117.snd.fst != (0 : Int)) -> (v157 = true -> ((IntKind.u64 = IntKind.u64 /\ 0 = limb (paF s) 0) /\ (IntKind.u64 = IntKind.u64 /\ 0 = limb (paF s) 1) /\ (IntKind.u64 = IntKind.u64 /\ 0 = limb (paF s) 2) /\ (IntKind.u64 = IntKind.u64 /\ 0 = limb (paF s) 3) /\ True) /\ (IntKind.i64 = IntKind.i64 /\ v117.snd.fst = paE s) /\ True) /\ (v157 = false -> ((0 : Int) ≤ v117.snd.snd.fst /\ v117.snd.snd.fst ≤ v117.snd.snd.fst) /\ ∀ (v158 : ByteArray), v158 = fbytes v117.snd.snd.snd v117.snd.snd.fst -> v158.size ≤ 140737488355328 /\ ∀ v159, v159 = beF v158 -> ∀ v160, v160 = erF ↑v158.size (32 : Int) -> ((IntKind.u64 = IntKind.u64 /\ limb v159 0 = limb (paF s) 0) /\ (IntKind.u64 = IntKind.u64 /\ limb v159 1 = limb (paF s) 1) /\ (IntKind.u64 = IntKind.u64 /\ limb v159 2 = limb (paF s) 2) /\ (IntKind.u64 = IntKind.u64 /\ limb v159 3 = limb (paF s) 3) /\ True) /\ (IntKind.i64 = IntKind.i64 /\ v160 = paE s) /\ True)))) /\ (v10 = false -> 0 ≤ 140737488355328 /\ ∀ (v161 : Int), v161 = (0 : Int) -> ∀ (v162 : Int), v162 = (11 : Int) -> ((IntKind.u64 = IntKind.u64 /\ limb v161 0 = limb (paF s) 0) /\ (IntKind.u64 = IntKind.u64 /\ limb v161 1 = limb (paF s) 1) /\ (IntKind.u64 = IntKind.u64 /\ limb v161 2 = limb (paF s) 2) /\ (IntKind.u64 = IntKind.u64 /\ limb v161 3 = limb (paF s) 3) /\ True) /\ (IntKind.i64 = IntKind.i64 /\ v162 = paE s) /\ True)))
theorem tieRParse (w0 : World) (s : ByteArray) : VCRParse s = ((recN (GQ Tryd.prog pa3Spec rpAnnSpec rpCutSpec rpSplSpec rpPeelSpec w0) 90).call 24 [.str (.sym s)] [] (fun r__ _ => eqV r__ (.tup [.agg [.int .u64 (.sym (limb (paF s) 0)), .int .u64 (.sym (limb (paF s) 1)), .int .u64 (.sym (limb (paF s) 2)), .int .u64 (.sym (limb (paF s) 3))], .int .i64 (.sym (paE s))]))) := by kernel_rfl
theorem pa11 {s : ByteArray} (h : (s.size : Int) < 64) : paE s = 11 ∧ paF s = 0 := by
  have e : paE s = 11 := if_pos h
  exact ⟨e, if_neg (by rw [e]; decide)⟩
theorem pa12 {s : ByteArray} (h : (s.size : Int) > 64) : paE s = 12 ∧ paF s = 0 := by
  have e : paE s = 12 := by unfold paE; rw [if_neg (by omega), if_pos h]
  exact ⟨e, if_neg (by rw [e]; decide)⟩
theorem rpEndB {s : ByteArray} {i e n : Int} {f : Int → Int} (h : rpR s i e n f) (he : e ≠ 0) : e = 10 ∧ paE s = 10 := by
  obtain ⟨hs, _, d⟩ := h
  obtain ⟨e1, j, hj, hb⟩ := d.resolve_left (fun z => he z.1)
  exact ⟨e1, paE_bad hs j hj (by rw [← hx_dg]; exact hb)⟩
theorem rpEnd {s : ByteArray} {i e n : Int} {f : Int → Int} (h : rpR s i e n f) (he : e = 0) (hi : ¬ i + 1 < 64) : (fbytes f n).size = 32 ∧ beF (fbytes f n) = paF s ∧ paE s = 0 := by
  obtain ⟨hs, ⟨a, b, c⟩, d⟩ := h
  have d := (d.resolve_right (fun z => by omega)).2
  have hn : n = 32 := by omega
  subst hn
  have hsz : (fbytes f 32).size = 32 := by
    show (fbytes f 32).data.size = 32
    simp [fbytes]
  have hd : ∀ j : Int, 0 ≤ j → j < 32 → 0 ≤ dgF s (2 * j) ∧ 0 ≤ dgF s (2 * j + 1) ∧ f j = 16 * dgF s (2 * j) + dgF s (2 * j + 1) := by
    intro j j0 j1
    have := d j j0 j1
    rwa [hx_dg, hx_dg] at this
  have g : ∀ k : Nat, k < 32 → byteAt (revF (fbytes f 32)) (k : Int) = 16 * dgF s (62 - 2 * (k : Int)) + dgF s (63 - 2 * (k : Int)) := by
    intro k hk
    rw [revF_at _ (by omega), hsz]
    have q := hd (31 - (k : Int)) (by omega) (by omega)
    have l1 := dg_lt s (2 * (31 - (k : Int)))
    have l2 := dg_lt s (2 * (31 - (k : Int)) + 1)
    have e1 : ((32 : Nat) : Int) - 1 - (k : Int) = ((31 - k : Nat) : Int) := by omega
    have e2 : ((31 - k : Nat) : Int) = 31 - (k : Int) := by omega
    rw [e1, fbytes_at (by omega) (by rw [e2]; omega) (by rw [e2]; omega), e2, q.2.2]
    rw [show 2 * (31 - (k : Int)) = 62 - 2 * k by omega, show 62 - 2 * (k : Int) + 1 = 63 - 2 * k by omega]
  have e0 : paE s = 0 := by
    unfold paE
    rw [if_neg (by omega), if_neg (by omega), if_neg]
    intro z
    obtain ⟨k, hk, hz⟩ := List.any_eq_true.mp z
    have hk := List.mem_range.mp hk
    have hz := of_decide_eq_true hz
    have q := hd ((k / 2 : Nat) : Int) (by omega) (by omega)
    rcases Nat.mod_two_eq_zero_or_one k with m | m
    · rw [show 2 * ((k / 2 : Nat) : Int) = (k : Int) by omega] at q; omega
    · rw [show 2 * ((k / 2 : Nat) : Int) + 1 = (k : Int) by omega] at q; omega
  refine ⟨hsz, ?_, e0⟩
  have p0 : byteAt (revF (fbytes f 32)) 0 = 16 * dgF s 62 + dgF s 63 := g 0 (by decide)
  have p1 : byteAt (revF (fbytes f 32)) 1 = 16 * dgF s 60 + dgF s 61 := g 1 (by decide)
  have p2 : byteAt (revF (fbytes f 32)) 2 = 16 * dgF s 58 + dgF s 59 := g 2 (by decide)
  have p3 : byteAt (revF (fbytes f 32)) 3 = 16 * dgF s 56 + dgF s 57 := g 3 (by decide)
  have p4 : byteAt (revF (fbytes f 32)) 4 = 16 * dgF s 54 + dgF s 55 := g 4 (by decide)
  have p5 : byteAt (revF (fbytes f 32)) 5 = 16 * dgF s 52 + dgF s 53 := g 5 (by decide)
  have p6 : byteAt (revF (fbytes f 32)) 6 = 16 * dgF s 50 + dgF s 51 := g 6 (by decide)
  have p7 : byteAt (revF (fbytes f 32)) 7 = 16 * dgF s 48 + dgF s 49 := g 7 (by decide)
  have p8 : byteAt (revF (fbytes f 32)) 8 = 16 * dgF s 46 + dgF s 47 := g 8 (by decide)
  have p9 : byteAt (revF (fbytes f 32)) 9 = 16 * dgF s 44 + dgF s 45 := g 9 (by decide)
  have p10 : byteAt (revF (fbytes f 32)) 10 = 16 * dgF s 42 + dgF s 43 := g 10 (by decide)
  have p11 : byteAt (revF (fbytes f 32)) 11 = 16 * dgF s 40 + dgF s 41 := g 11 (by decide)
  have p12 : byteAt (revF (fbytes f 32)) 12 = 16 * dgF s 38 + dgF s 39 := g 12 (by decide)
  have p13 : byteAt (revF (fbytes f 32)) 13 = 16 * dgF s 36 + dgF s 37 := g 13 (by decide)
  have p14 : byteAt (revF (fbytes f 32)) 14 = 16 * dgF s 34 + dgF s 35 := g 14 (by decide)
  have p15 : byteAt (revF (fbytes f 32)) 15 = 16 * dgF s 32 + dgF s 33 := g 15 (by decide)
  have p16 : byteAt (revF (fbytes f 32)) 16 = 16 * dgF s 30 + dgF s 31 := g 16 (by decide)
  have p17 : byteAt (revF (fbytes f 32)) 17 = 16 * dgF s 28 + dgF s 29 := g 17 (by decide)
  have p18 : byteAt (revF (fbytes f 32)) 18 = 16 * dgF s 26 + dgF s 27 := g 18 (by decide)
  have p19 : byteAt (revF (fbytes f 32)) 19 = 16 * dgF s 24 + dgF s 25 := g 19 (by decide)
  have p20 : byteAt (revF (fbytes f 32)) 20 = 16 * dgF s 22 + dgF s 23 := g 20 (by decide)
  have p21 : byteAt (revF (fbytes f 32)) 21 = 16 * dgF s 20 + dgF s 21 := g 21 (by decide)
  have p22 : byteAt (revF (fbytes f 32)) 22 = 16 * dgF s 18 + dgF s 19 := g 22 (by decide)
  have p23 : byteAt (revF (fbytes f 32)) 23 = 16 * dgF s 16 + dgF s 17 := g 23 (by decide)
  have p24 : byteAt (revF (fbytes f 32)) 24 = 16 * dgF s 14 + dgF s 15 := g 24 (by decide)
  have p25 : byteAt (revF (fbytes f 32)) 25 = 16 * dgF s 12 + dgF s 13 := g 25 (by decide)
  have p26 : byteAt (revF (fbytes f 32)) 26 = 16 * dgF s 10 + dgF s 11 := g 26 (by decide)
  have p27 : byteAt (revF (fbytes f 32)) 27 = 16 * dgF s 8 + dgF s 9 := g 27 (by decide)
  have p28 : byteAt (revF (fbytes f 32)) 28 = 16 * dgF s 6 + dgF s 7 := g 28 (by decide)
  have p29 : byteAt (revF (fbytes f 32)) 29 = 16 * dgF s 4 + dgF s 5 := g 29 (by decide)
  have p30 : byteAt (revF (fbytes f 32)) 30 = 16 * dgF s 2 + dgF s 3 := g 30 (by decide)
  have p31 : byteAt (revF (fbytes f 32)) 31 = 16 * dgF s 0 + dgF s 1 := g 31 (by decide)
  clear g hd d
  unfold beF leF paF
  rw [if_pos (by rw [revF_sz, hsz]; rfl), if_pos e0]
  generalize revF (fbytes f 32) = t at *
  have q0 : w8 t 0 = paR s 0 16 := by simp [w8, paR, p0, p1, p2, p3, p4, p5, p6, p7]; omega
  have q1 : w8 t 8 = paR s 1 16 := by simp [w8, paR, p8, p9, p10, p11, p12, p13, p14, p15]; omega
  have q2 : w8 t 16 = paR s 2 16 := by simp [w8, paR, p16, p17, p18, p19, p20, p21, p22, p23]; omega
  have q3 : w8 t 24 = paR s 3 16 := by simp [w8, paR, p24, p25, p26, p27, p28, p29, p30, p31]; omega
  rw [q0, q1, q2, q3]
theorem er32 {n : Nat} (h : n = 32) : erF (n : Int) 32 = 0 := by subst h; decide
theorem hx16 {x y : Int} (hx : 0 ≤ x) (hx' : x ≤ 15) (hy : 0 ≤ y) (hy' : y ≤ 15) : IntKind.u8.wrap (IntKind.i64.wrap (IntKind.i64.wrap (16 * x) + y)) = 16 * x + y := by
  rw [i64_id (show -9223372036854775808 ≤ 16 * x by omega) (by omega), i64_id (by omega) (by omega), w_u8]; omega
theorem pureRParse (s : ByteArray) (h : s.size ≤ 140737488355328) : VCRParse s := by
  unfold VCRParse
  rintro _ rfl
  refine br (fun h1 => ?_) fun h1 => ?_
  · obtain ⟨e, f⟩ := pa11 h1
    rw [e, f]; simp only [pa_zero, and_self, implies_true]
  rintro _ rfl
  refine br (fun h2 => ?_) fun h2 => ?_
  · obtain ⟨e, f⟩ := pa12 h2
    rw [e, f]; simp only [pa_zero, and_self, implies_true]
  have hs : s.size = 64 := by omega
  have b0 := byteAt_in s 0
  have b1 := byteAt_in s 1
  have x0 := hx_in (byteAt s 0)
  have x1 := hx_in (byteAt s 1)
  rintro _ rfl
  refine br (fun h3 => ⟨⟨by omega, by omega⟩, ?_⟩) fun h3 => absurd h3 (by omega)
  rintro _ rfl
  refine ⟨b0, ?_⟩
  rintro _ rfl
  refine ⟨⟨by omega, by omega⟩, ?_⟩
  rintro _ rfl
  refine ⟨b1, ?_⟩
  rintro _ rfl
  refine rb (fun hx => br (fun hy => ?_) fun hy => ?_) fun hx => ?_
  · intro v17 h17 v18 h18 v19 h19
    refine ⟨⟨(2, 10, 1, fun _ => v19), rpFirstB hs 1 (by decide) hy, by simp⟩, ?_⟩
    rintro ⟨i, e, n, f⟩ hR
    dsimp only at hR ⊢
    have hr := hR.2.1
    have w1 : IntKind.i64.wrap (i + 1) = i + 1 := i64_id (by omega) (by omega)
    have w2 : IntKind.i64.wrap (i + 2) = i + 2 := i64_id (by omega) (by omega)
    simp only [w1, w2]
    rintro _ rfl _ rfl
    refine br (fun c => brE (fun he => ⟨⟨by omega, by omega⟩, ?_⟩) fun he => brN (fun _ => ?_) fun z => absurd z he) fun c => brN (fun he => ?_) fun he => ⟨⟨by omega, by omega⟩, ?_⟩
    · have c0 := byteAt_in s i
      have c1 := byteAt_in s (i + 1)
      have y0 := hx_in (byteAt s i)
      have y1 := hx_in (byteAt s (i + 1))
      rintro _ rfl
      refine ⟨c0, ?_⟩
      rintro _ rfl _ rfl
      refine ⟨⟨by omega, by omega⟩, ?_⟩
      rintro _ rfl
      refine ⟨c1, ?_⟩
      rintro _ rfl
      refine rb (fun gx => br (fun gy => ?_) fun gy => ?_) fun gx => ?_
      · intro v33 h33 v34 h34 v35 h35
        refine ⟨⟨trivial, by omega, by omega⟩, ?_⟩
        rintro v36 h36 _ rfl _ rfl
        exact ⟨(i + 2, 10, n + 1, v36), rpBad hR (by omega) rfl (Or.inr rfl) gy, by simp, by dsimp only; omega⟩
      · intro v33 h33 v34 h34 v35 h35
        have e35 : v35 = 16 * hxF (byteAt s i) + hxF (byteAt s (i + 1)) := by rw [h35, h34, h33]; exact hx16 (by omega) (by omega) (by omega) (by omega)
        refine ⟨⟨trivial, by omega, by omega⟩, ?_⟩
        rintro v36 h36 _ rfl _ rfl
        rw [h36]
        exact ⟨(i + 2, e, n + 1, updF f n v35), rpGood hR he (by omega) rfl rfl (by omega) (by omega) e35, by simp, by dsimp only; omega⟩
      · intro v33 h33 v34 h34 v35 h35
        refine ⟨⟨trivial, by omega, by omega⟩, ?_⟩
        rintro v36 h36 _ rfl _ rfl
        exact ⟨(i + 2, 10, n + 1, v36), rpBad hR (by omega) rfl (Or.inl rfl) gx, by simp, by dsimp only; omega⟩
    · obtain ⟨e10, e11⟩ := rpEndB hR he
      rw [e10]; simpa using paBad e11
    · obtain ⟨e10, e11⟩ := rpEndB hR he
      rw [e10]; simpa using paBad e11
    · obtain ⟨z1, z2, z3⟩ := rpEnd hR he (by omega)
      rintro _ rfl
      refine ⟨by omega, ?_⟩
      rintro _ rfl _ rfl
      rw [z2, er32 z1, z3]; simp
  · intro v17 h17 v18 h18 v19 h19
    have e19 : v19 = 16 * hxF (byteAt s 0) + hxF (byteAt s 1) := by rw [h19, h18, h17]; exact hx16 (by omega) (by omega) (by omega) (by omega)
    refine ⟨⟨(2, 0, 1, fun _ => v19), rpFirst hs (by omega) (by omega) e19, by simp⟩, ?_⟩
    rintro ⟨i, e, n, f⟩ hR
    dsimp only at hR ⊢
    have hr := hR.2.1
    have w1 : IntKind.i64.wrap (i + 1) = i + 1 := i64_id (by omega) (by omega)
    have w2 : IntKind.i64.wrap (i + 2) = i + 2 := i64_id (by omega) (by omega)
    simp only [w1, w2]
    rintro _ rfl _ rfl
    refine br (fun c => brE (fun he => ⟨⟨by omega, by omega⟩, ?_⟩) fun he => brN (fun _ => ?_) fun z => absurd z he) fun c => brN (fun he => ?_) fun he => ⟨⟨by omega, by omega⟩, ?_⟩
    · have c0 := byteAt_in s i
      have c1 := byteAt_in s (i + 1)
      have y0 := hx_in (byteAt s i)
      have y1 := hx_in (byteAt s (i + 1))
      rintro _ rfl
      refine ⟨c0, ?_⟩
      rintro _ rfl _ rfl
      refine ⟨⟨by omega, by omega⟩, ?_⟩
      rintro _ rfl
      refine ⟨c1, ?_⟩
      rintro _ rfl
      refine rb (fun gx => br (fun gy => ?_) fun gy => ?_) fun gx => ?_
      · intro v33 h33 v34 h34 v35 h35
        refine ⟨⟨trivial, by omega, by omega⟩, ?_⟩
        rintro v36 h36 _ rfl _ rfl
        exact ⟨(i + 2, 10, n + 1, v36), rpBad hR (by omega) rfl (Or.inr rfl) gy, by simp, by dsimp only; omega⟩
      · intro v33 h33 v34 h34 v35 h35
        have e35 : v35 = 16 * hxF (byteAt s i) + hxF (byteAt s (i + 1)) := by rw [h35, h34, h33]; exact hx16 (by omega) (by omega) (by omega) (by omega)
        refine ⟨⟨trivial, by omega, by omega⟩, ?_⟩
        rintro v36 h36 _ rfl _ rfl
        rw [h36]
        exact ⟨(i + 2, e, n + 1, updF f n v35), rpGood hR he (by omega) rfl rfl (by omega) (by omega) e35, by simp, by dsimp only; omega⟩
      · intro v33 h33 v34 h34 v35 h35
        refine ⟨⟨trivial, by omega, by omega⟩, ?_⟩
        rintro v36 h36 _ rfl _ rfl
        exact ⟨(i + 2, 10, n + 1, v36), rpBad hR (by omega) rfl (Or.inl rfl) gx, by simp, by dsimp only; omega⟩
    · obtain ⟨e10, e11⟩ := rpEndB hR he
      rw [e10]; simpa using paBad e11
    · obtain ⟨e10, e11⟩ := rpEndB hR he
      rw [e10]; simpa using paBad e11
    · obtain ⟨z1, z2, z3⟩ := rpEnd hR he (by omega)
      rintro _ rfl
      refine ⟨by omega, ?_⟩
      rintro _ rfl _ rfl
      rw [z2, er32 z1, z3]; simp
  · intro v17 h17 v18 h18 v19 h19
    refine ⟨⟨(2, 10, 1, fun _ => v19), rpFirstB hs 0 (by decide) hx, by simp⟩, ?_⟩
    rintro ⟨i, e, n, f⟩ hR
    dsimp only at hR ⊢
    have hr := hR.2.1
    have w1 : IntKind.i64.wrap (i + 1) = i + 1 := i64_id (by omega) (by omega)
    have w2 : IntKind.i64.wrap (i + 2) = i + 2 := i64_id (by omega) (by omega)
    simp only [w1, w2]
    rintro _ rfl _ rfl
    refine br (fun c => brE (fun he => ⟨⟨by omega, by omega⟩, ?_⟩) fun he => brN (fun _ => ?_) fun z => absurd z he) fun c => brN (fun he => ?_) fun he => ⟨⟨by omega, by omega⟩, ?_⟩
    · have c0 := byteAt_in s i
      have c1 := byteAt_in s (i + 1)
      have y0 := hx_in (byteAt s i)
      have y1 := hx_in (byteAt s (i + 1))
      rintro _ rfl
      refine ⟨c0, ?_⟩
      rintro _ rfl _ rfl
      refine ⟨⟨by omega, by omega⟩, ?_⟩
      rintro _ rfl
      refine ⟨c1, ?_⟩
      rintro _ rfl
      refine rb (fun gx => br (fun gy => ?_) fun gy => ?_) fun gx => ?_
      · intro v33 h33 v34 h34 v35 h35
        refine ⟨⟨trivial, by omega, by omega⟩, ?_⟩
        rintro v36 h36 _ rfl _ rfl
        exact ⟨(i + 2, 10, n + 1, v36), rpBad hR (by omega) rfl (Or.inr rfl) gy, by simp, by dsimp only; omega⟩
      · intro v33 h33 v34 h34 v35 h35
        have e35 : v35 = 16 * hxF (byteAt s i) + hxF (byteAt s (i + 1)) := by rw [h35, h34, h33]; exact hx16 (by omega) (by omega) (by omega) (by omega)
        refine ⟨⟨trivial, by omega, by omega⟩, ?_⟩
        rintro v36 h36 _ rfl _ rfl
        rw [h36]
        exact ⟨(i + 2, e, n + 1, updF f n v35), rpGood hR he (by omega) rfl rfl (by omega) (by omega) e35, by simp, by dsimp only; omega⟩
      · intro v33 h33 v34 h34 v35 h35
        refine ⟨⟨trivial, by omega, by omega⟩, ?_⟩
        rintro v36 h36 _ rfl _ rfl
        exact ⟨(i + 2, 10, n + 1, v36), rpBad hR (by omega) rfl (Or.inl rfl) gx, by simp, by dsimp only; omega⟩
    · obtain ⟨e10, e11⟩ := rpEndB hR he
      rw [e10]; simpa using paBad e11
    · obtain ⟨e10, e11⟩ := rpEndB hR he
      rw [e10]; simpa using paBad e11
    · obtain ⟨z1, z2, z3⟩ := rpEnd hR he (by omega)
      rintro _ rfl
      refine ⟨by omega, ?_⟩
      rintro _ rfl _ rfl
      rw [z2, er32 z1, z3]; simp
theorem rParse_ok : SpecOk Tryd.prog 24 rParseSpec := by
  intro args k h
  unfold rParseSpec at h
  split at h
  · rename_i s
    obtain ⟨hr, h⟩ := h
    exact ⟨_, h _ rfl _ rfl, PureOk.of_tie (GQ Tryd.prog pa3Spec rpAnnSpec rpCutSpec rpSplSpec rpPeelSpec) (fun w__ => gokQ w__ namesOk_ mixed_ pa3_ok) (fun _ => rfl) (fun _ => rfl) (args' := [.str (.sym s.val)]) ⟨rfl, trivial⟩ 90 (fun w__ => VCRParse s.val) (fun w__ => tieRParse w__ s.val) (fun w__ => pureRParse s.val hr)⟩
  · exact h.elim

end Go.Proofs.YtaaobpalpcdlbaaDoor.Bits
