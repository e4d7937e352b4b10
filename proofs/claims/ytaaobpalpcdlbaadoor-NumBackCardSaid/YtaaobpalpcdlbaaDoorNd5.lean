import Derived.Test.YtaaobpalpcdlbaaDoorSxR
import Derived.Test.YtaaobpalpcdlbaaDoorProg
import Derived.Test.YtaaobpalpcdlbaaDoorNd4
import Derived.KernelRfl
namespace Go.Proofs.YtaaobpalpcdlbaaDoor.Bits
open Go Go.Sx Go.RowKit
set_option linter.unusedVariables false
set_option linter.unusedSimpArgs false
set_option maxRecDepth 100000
--@PLAIN
theorem hx_hexD {d : Int} (h0 : 0 ≤ d) (h1 : d < 16) : hxF (hexD d) = d := by unfold hxF hexD; (repeat' split) <;> omega
theorem hexD_hx {c : Int} (h : 0 ≤ hxF c) : hexD (hxF c) = c := by unfold hxF hexD at *; (repeat' split at h) <;> (repeat' split) <;> omega
theorem text_sz (n : Int) : (textF n).size = 64 := by unfold textF; rw [fb_size]; rfl
theorem text_dg {n : Int} (h : 0 ≤ n) (i : Nat) (hi : i < 64) : dgF (textF n) (i : Int) = n / 16 ^ (63 - i) % 16 := by
  have m : 0 ≤ n / 16 ^ (63 - i) % 16 ∧ n / 16 ^ (63 - i) % 16 < 16 := by omega
  have e : (63 - (i : Int)).toNat = 63 - i := by omega
  rw [← hx_dg]
  unfold textF
  rw [fb_at (fun i => hexD (n / 16 ^ (63 - i).toNat % 16)) 64 i (by omega) (by rw [e]; exact hexD_in m.1 m.2), e, hx_hexD m.1 m.2]
theorem pow16_mod (N : Int) (k : Nat) : N % 16 ^ (k + 1) = N % 16 ^ k + N / 16 ^ k % 16 * 16 ^ k := by
  have p : (0 : Int) < 16 ^ k := Int.pow_pos (by decide)
  have e1 := Int.mul_ediv_add_emod N (16 ^ k)
  have e2 := Int.mul_ediv_add_emod (N / 16 ^ k) 16
  have b1 := Int.emod_nonneg N (Int.ne_of_gt p)
  have b2 := Int.emod_lt_of_pos N p
  have b3 : 0 ≤ N / 16 ^ k % 16 ∧ N / 16 ^ k % 16 < 16 := by omega
  rw [Int.pow_succ]
  generalize hP : (16 : Int) ^ k = P at *
  generalize N / P = q at *
  generalize N % P = r at *
  have e3 : N = P * 16 * (q / 16) + (r + q % 16 * P) := by
    have e4 : P * q = P * 16 * (q / 16) + q % 16 * P := by
      have : P * q = P * (16 * (q / 16) + q % 16) := by rw [e2]
      rw [this]; grind
    omega
  have l : 0 ≤ q % 16 * P := Int.mul_nonneg b3.1 (by omega)
  have l2 : q % 16 * P ≤ 15 * P := Int.mul_le_mul_of_nonneg_right (by omega) (by omega)
  rw [e3, Int.mul_add_emod_self_left, Int.emod_eq_of_lt (by omega) (by omega)]
theorem text_paR {n : Int} (h : 0 ≤ n) (j : Nat) (hj : j < 4) : ∀ k, k ≤ 16 → paR (textF n) j k = n / 16 ^ (16 * j) % 16 ^ k
  | 0, _ => by simp [paR]
  | k + 1, hk => by
    rw [paR, text_paR h j hj k (by omega), pow16_mod]
    have e : 63 - 16 * (j : Int) - (k : Int) = ((63 - 16 * j - k : Nat) : Int) := by omega
    rw [e, text_dg h _ (by omega), show 63 - (63 - 16 * j - k) = 16 * j + k by omega, Int.pow_add, Int.ediv_ediv_of_nonneg (Int.le_of_lt (Int.pow_pos (by decide)))]
theorem text_parse {n : Int} (h0 : 0 ≤ n) (h1 : n < 115792089237316195423570985008687907853269984665640564039457584007913129639936) : paE (textF n) = 0 ∧ paF (textF n) = n := by
  have e0 : paE (textF n) = 0 := by
    unfold paE
    rw [if_neg (by rw [text_sz]; decide), if_neg (by rw [text_sz]; decide), if_neg]
    intro z
    obtain ⟨k, hk, hz⟩ := List.any_eq_true.mp z
    have hk := List.mem_range.mp hk
    have hz := of_decide_eq_true hz
    rw [text_dg h0 k hk] at hz
    omega
  refine ⟨e0, ?_⟩
  unfold paF
  rw [if_pos e0]
  have q : ∀ j : Nat, j < 4 → paR (textF n) j 16 = limb n j := fun j hj => by
    rw [text_paR h0 j hj 16 (Nat.le_refl _)]
    unfold limb
    rw [show (2 : Int) ^ (64 * j) = 16 ^ (16 * j) by rw [show 64 * j = 4 * (16 * j) by omega, Int.pow_mul]; rfl]
    rfl
  rw [q 0 (by decide), q 1 (by decide), q 2 (by decide), q 3 (by decide), val4_limb' h0 h1]
theorem paE_dg {s : ByteArray} (h : paE s = 0) : s.size = 64 ∧ ∀ i : Nat, i < 64 → 0 ≤ dgF s (i : Int) := by
  unfold paE at h
  split at h
  · omega
  split at h
  · omega
  split at h
  · omega
  · rename_i a b c
    refine ⟨by omega, fun i hi => ?_⟩
    apply Decidable.byContradiction
    intro z
    exact c (List.any_eq_true.mpr ⟨i, List.mem_range.mpr hi, decide_eq_true (by omega)⟩)
theorem paR_in {s : ByteArray} (h : ∀ i : Nat, i < 64 → 0 ≤ dgF s (i : Int)) (j : Nat) (hj : j < 4) : ∀ k, k ≤ 16 → 0 ≤ paR s j k ∧ paR s j k < 16 ^ k
  | 0, _ => by simp [paR]
  | k + 1, hk => by
    have ih := paR_in h j hj k (by omega)
    have e : 63 - 16 * (j : Int) - (k : Int) = ((63 - 16 * j - k : Nat) : Int) := by omega
    have d0 := h (63 - 16 * j - k) (by omega)
    have d1 := dg_lt s ((63 - 16 * j - k : Nat) : Int)
    have p : (0 : Int) < 16 ^ k := Int.pow_pos (by decide)
    rw [paR, e, Int.pow_succ]
    generalize dgF s ((63 - 16 * j - k : Nat) : Int) = d at *
    generalize (16 : Int) ^ k = P at *
    have l : 0 ≤ d * P := Int.mul_nonneg d0 (by omega)
    have l2 : d * P ≤ 15 * P := Int.mul_le_mul_of_nonneg_right (by omega) (by omega)
    omega
theorem paR_dg {s : ByteArray} (h : ∀ i : Nat, i < 64 → 0 ≤ dgF s (i : Int)) (j : Nat) (hj : j < 4) (i : Nat) : ∀ k, k ≤ 16 → i < k → paR s j k / 16 ^ i % 16 = dgF s (63 - 16 * (j : Int) - i)
  | 0, _, hi => by omega
  | k + 1, hk, hi => by
    have ih := paR_in h j hj k (by omega)
    have p : (0 : Int) < 16 ^ i := Int.pow_pos (by decide)
    have e : 63 - 16 * (j : Int) - (k : Int) = ((63 - 16 * j - k : Nat) : Int) := by omega
    have d0 := h (63 - 16 * j - k) (by omega)
    have d1 := dg_lt s ((63 - 16 * j - k : Nat) : Int)
    rw [← e] at d0 d1
    rw [paR]
    by_cases c : i = k
    · subst c
      rw [Int.add_mul_ediv_right _ _ (by omega), Int.ediv_eq_zero_of_lt ih.1 ih.2]
      omega
    · have ih2 := paR_dg h j hj i k (by omega) (by omega)
      have ek : (16 : Int) ^ k = 16 ^ (k - i - 1) * 16 * 16 ^ i := by rw [← Int.pow_succ, ← Int.pow_add]; congr 1; omega
      rw [ek, show dgF s (63 - 16 * (j : Int) - k) * (16 ^ (k - i - 1) * 16 * 16 ^ i) = (dgF s (63 - 16 * (j : Int) - k) * 16 ^ (k - i - 1)) * 16 * 16 ^ i by
        generalize (16 : Int) ^ (k - i - 1) = x; generalize (16 : Int) ^ i = y; grind, Int.add_mul_ediv_right _ _ (by omega), Int.add_mul_emod_self_right]
      exact ih2
theorem parse_text {s : ByteArray} (h : paE s = 0) : textF (paF s) = s := by
  obtain ⟨hs, hd⟩ := paE_dg h
  have p : (16 : Int) ^ 16 = 18446744073709551616 := by decide +kernel
  have q : ∀ j : Nat, j < 4 → 0 ≤ paR s j 16 ∧ paR s j 16 ≤ 18446744073709551615 := fun j hj => by
    have := paR_in hd j hj 16 (Nat.le_refl _); rw [p] at this; omega
  obtain ⟨l0, l1, l2, l3⟩ := limbs4' (q 0 (by decide)) (q 1 (by decide)) (q 2 (by decide)) (q 3 (by decide))
  have hl : ∀ j : Nat, j < 4 → limb (paF s) j = paR s j 16 := fun j hj => by
    unfold paF
    rw [if_pos h]
    match j, hj with
    | 0, _ => exact l0
    | 1, _ => exact l1
    | 2, _ => exact l2
    | 3, _ => exact l3
  have h0 : 0 ≤ paF s := by
    unfold paF
    rw [if_pos h]
    have a := q 0 (by decide)
    have b := q 1 (by decide)
    have c := q 2 (by decide)
    have d := q 3 (by decide)
    unfold val4
    omega
  have key : ∀ i : Nat, i < 64 → paF s / 16 ^ (63 - i) % 16 = dgF s (i : Int) := fun i hi => by
    obtain ⟨j, k, hj, hk, e⟩ : ∃ j k : Nat, j < 4 ∧ k < 16 ∧ 63 - i = 16 * j + k := ⟨(63 - i) / 16, (63 - i) % 16, by omega, by omega, by omega⟩
    have r := paR_dg hd j hj k 16 (Nat.le_refl _) hk
    rw [← hl j hj] at r
    rw [show (i : Int) = 63 - 16 * (j : Int) - (k : Int) by omega, ← r, e]
    unfold limb
    rw [show (2 : Int) ^ (64 * j) = 16 ^ (16 * j) by rw [show 64 * j = 4 * (16 * j) by omega, Int.pow_mul]; rfl]
    rw [Int.pow_add, ← Int.ediv_ediv_of_nonneg (Int.le_of_lt (Int.pow_pos (by decide)))]
    generalize paF s / 16 ^ (16 * j) = x
    have ek : (18446744073709551616 : Int) = 16 ^ (16 - k - 1) * 16 * 16 ^ k := by rw [← p, ← Int.pow_succ, ← Int.pow_add]; congr 1; omega
    have pk : (0 : Int) < 16 ^ k := Int.pow_pos (by decide)
    rw [ek]
    generalize (16 : Int) ^ (16 - k - 1) = a
    generalize (16 : Int) ^ k = b at *
    have e1 := Int.mul_ediv_add_emod x (a * 16 * b)
    conv => lhs; rw [← e1]
    rw [show a * 16 * b * (x / (a * 16 * b)) = (a * (x / (a * 16 * b))) * 16 * b by grind, Int.add_comm, Int.add_mul_ediv_right _ _ (by omega), Int.add_mul_emod_self_right]
  refine ba_ext (by rw [text_sz, hs]) fun i hi => ?_
  rw [text_sz] at hi
  have m : 0 ≤ paF s / 16 ^ (63 - i) % 16 ∧ paF s / 16 ^ (63 - i) % 16 < 16 := by omega
  have e : (63 - (i : Int)).toNat = 63 - i := by omega
  have d := hd i hi
  rw [← hx_dg] at d
  unfold textF
  rw [fb_at (fun i => hexD (paF s / 16 ^ (63 - i).toNat % 16)) 64 i (by omega) (by rw [e]; exact hexD_in m.1 m.2), e, key i hi, ← hx_dg, hexD_hx d]
--@WHYP NumBack hT : tabW w0
def VCNumBack (w0 : World) (x0 : Int) (x1 : Int) (x2 : Int) (x3 : Int) (z0 : Int) (z1 : Int) (z2 : Int) (z3 : Int) (s : ByteArray) : Prop :=
  (U64 x0 /\ U64 x1 /\ U64 x2 /\ U64 x3 /\ tabW w0) /\ ∀ (v1 : ByteArray), v1 = textF (val4 x0 x1 x2 x3) -> True /\ ∀ v2, v2 = paF v1 -> ∀ v3, v3 = paE v1 -> (U64 x0 /\ U64 x1 /\ U64 x2 /\ U64 x3) /\ ∀ (v4 : ByteArray), v4 = bigF (val4 x0 x1 x2 x3) -> v4.size ≤ 140737488355328 /\ ∀ v5, v5 = beF v4 -> ∀ v6, v6 = erF ↑v4.size (32 : Int) -> (U64 x0 /\ U64 x1 /\ U64 x2 /\ U64 x3) /\ ∀ (v7 : ByteArray), v7 = littleF (val4 x0 x1 x2 x3) -> True /\ ∀ v8, v8 = leF v7 -> ∀ v9, v9 = erF ↑v7.size (32 : Int) -> ∀ (v10 : Bool), v10 = !(limb v2 0 == x0 && (limb v2 1 == x1 && (limb v2 2 == x2 && (limb v2 3 == x3 && true)))) -> (v10 = false -> ∀ (v11 : Bool), v11 = !(limb v5 0 == x0 && (limb v5 1 == x1 && (limb v5 2 == x2 && (limb v5 3 == x3 && true)))) -> (v11 = false -> ∀ (v12 : Bool), v12 = !(limb v8 0 == x0 && (limb v8 1 == x1 && (limb v8 2 == x2 && (limb v8 3 == x3 && true)))) -> (v12 = false -> ∀ v13, v13 = (v3 != (0 : Int)) -> (v13 = false -> ∀ v14, v14 = (v6 != (0 : Int)) -> (v14 = false -> ∀ v15, v15 = (v9 != (0 : Int)) -> (v15 = true -> false = true) /\ (v15 = false -> True /\ ∀ v16, v16 = paF s -> ∀ v17, v17 = paE s -> ∀ v18, v18 = (v17 == (0 : Int)) -> (v18 = true -> (U64 (limb v16 0) /\ U64 (limb v16 1) /\ U64 (limb v16 2) /\ U64 (limb v16 3) /\ tabW w0) /\ ∀ (v19 : ByteArray), v19 = textF (val4 (limb v16 0) (limb v16 1) (limb v16 2) (limb v16 3)) -> ∀ (v20 : Bool), v20 = !v19 == s -> (v20 = true -> false = true) /\ (v20 = false -> (U64 x0 /\ U64 x1 /\ U64 x2 /\ U64 x3 /\ U64 z0 /\ U64 z1 /\ U64 z2 /\ U64 z3) /\ ∀ v21, v21 = val4 x0 x1 x2 x3 + val4 z0 z1 z2 z3 -> ∀ v22, v22 = (val4 x0 x1 x2 x3 + val4 z0 z1 z2 z3) / (115792089237316195423570985008687907853269984665640564039457584007913129639936 : Int) -> (U64 (limb v21 0) /\ U64 (limb v21 1) /\ U64 (limb v21 2) /\ U64 (limb v21 3) /\ U64 z0 /\ U64 z1 /\ U64 z2 /\ U64 z3) /\ ∀ v23, v23 = val4 (limb v21 0) (limb v21 1) (limb v21 2) (limb v21 3) - val4 z0 z1 z2 z3 -> ∀ (v24 : Int), (v24 = if val4 (limb v21 0) (limb v21 1) (limb v21 2) (limb v21 3) < val4 z0 z1 z2 z3 then 1 else 0) -> ∀ v25, v25 = (limb v23 0 == x0 && (limb v23 1 == x1 && (limb v23 2 == x2 && (limb v23 3 == x3 && true)))) -> (v25 = true -> ∀ v26, v26 = (v22 == v24) -> (v26 = true -> (U64 18446744073709551615 /\ U64 18446744073709551615 /\ U64 18446744073709551615 /\ U64 18446744073709551615 /\ U64 1 /\ U64 0 /\ U64 0 /\ U64 0) /\ ∀ (v27 : Int), v27 = (115792089237316195423570985008687907853269984665640564039457584007913129639936 : Int) -> ∀ (v28 : Int), v28 = (1 : Int) -> (U64 0 /\ U64 0 /\ U64 0 /\ U64 9223372036854775808 /\ U64 2 /\ U64 0 /\ U64 0 /\ U64 0) /\ ∀ (v29 : Int), v29 = (115792089237316195423570985008687907853269984665640564039457584007913129639936 : Int) -> ∀ (v30 : Int), v30 = (1 : Int) -> (U64 7 /\ U64 0 /\ U64 0 /\ U64 0 /\ U64 0 /\ U64 0 /\ U64 0 /\ U64 0 /\ U64 2 /\ U64 0 /\ U64 0 /\ U64 0) /\ ∀ (v31 : Int), v31 = (3 : Int) -> ∀ (v32 : Int), v32 = (0 : Int) -> ∀ (v33 : Int), v33 = (1 : Int) -> ∀ (v34 : Int), v34 = (0 : Int) -> ∀ v35, v35 = (limb v27 0 == (0 : Int) && (limb v27 1 == (0 : Int) && (limb v27 2 == (0 : Int) && (limb v27 3 == (0 : Int) && true)))) -> (v35 = true -> ∀ v36, v36 = (v28 == (1 : Int)) -> (v36 = true -> ∀ v37, v37 = (limb v29 0 == (0 : Int) && (limb v29 1 == (0 : Int) && (limb v29 2 == (0 : Int) && (limb v29 3 == (0 : Int) && true)))) -> (v37 = true -> ∀ v38, v38 = (limb v30 0 == (1 : Int) && (limb v30 1 == (0 : Int) && (limb v30 2 == (0 : Int) && (limb v30 3 == (0 : Int) && true)))) -> (v38 = true -> ∀ v39, v39 = (limb v31 0 == (3 : Int) && (limb v31 1 == (0 : Int) && (limb v31 2 == (0 : Int) && (limb v31 3 == (0 : Int) && true)))) -> (v39 = true -> ∀ v40, v40 = (limb v32 0 == (0 : Int) && (limb v32 1 == (0 : Int) && (limb v32 2 == (0 : Int) && (limb v32 3 == (0 : Int) && true)))) -> (v40 = true -> ∀ v41, v41 = (limb v33 0 == (1 : Int) && (limb v33 1 == (0 : Int) && (limb v33 2 == (0 : Int) && (limb v33 3 == (0 : Int) && true)))) -> (v41 = true -> ∀ v42, v42 = (v34 == (0 : Int)) -> (v42 = true -> (U64 18446744073709551615 /\ U64 18446744073709551615 /\ U64 18446744073709551615 /\ U64 18446744073709551615) /\ ∀ (v43 : Int), v43 = (256 : Int) -> ∀ v44, v44 = (v43 == (256 : Int)) -> (v44 = true -> (U64 10 /\ U64 0 /\ U64 0 /\ U64 0 /\ tabW w0) /\ ∀ (v45 : ByteArray), v45 = bytesL [48, 48, 48, 48, 48, 48, 48, 48, 48, 48, 48, 48, 48, 48, 48, 48, 48, 48, 48, 48, 48, 48, 48, 48, 48, 48, 48, 48, 48, 48, 48, 48, 48, 48, 48, 48, 48, 48, 48, 48, 48, 48, 48, 48, 48, 48, 48, 48, 48, 48, 48, 48, 48, 48, 48, 48, 48, 48, 48, 48, 48, 48, 48, 97] -> ((0 : Int) ≤ (63 : Int) /\ (63 : Int) ≤ ↑v45.size /\ (↑v45.size : Int) ≤ ↑v45.size) /\ ∀ (v46 : ByteArray), v46 = v45.extract 63 (↑v45.size : Int).toNat -> ∀ v47, v47 = (v46 == bytesL [97]) -> v47 = true) /\ (v44 = false -> false = true)) /\ (v42 = false -> false = true)) /\ (v41 = false -> false = true)) /\ (v40 = false -> false = true)) /\ (v39 = false -> false = true)) /\ (v38 = false -> false = true)) /\ (v37 = false -> false = true)) /\ (v36 = false -> false = true)) /\ (v35 = false -> false = true)) /\ (v26 = false -> false = true)) /\ (v25 = false -> false = true))) /\ (v18 = false -> (U64 x0 /\ U64 x1 /\ U64 x2 /\ U64 x3 /\ U64 z0 /\ U64 z1 /\ U64 z2 /\ U64 z3) /\ ∀ v48, v48 = val4 x0 x1 x2 x3 + val4 z0 z1 z2 z3 -> ∀ v49, v49 = (val4 x0 x1 x2 x3 + val4 z0 z1 z2 z3) / (115792089237316195423570985008687907853269984665640564039457584007913129639936 : Int) -> (U64 (limb v48 0) /\ U64 (limb v48 1) /\ U64 (limb v48 2) /\ U64 (limb v48 3) /\ U64 z0 /\ U64 z1 /\ U64 z2 /\ U64 z3) /\ ∀ v50, v50 = val4 (limb v48 0) (limb v48 1) (limb v48 2) (limb v48 3) - val4 z0 z1 z2 z3 -> ∀ (v51 : Int), (v51 = if val4 (limb v48 0) (limb v48 1) (limb v48 2) (limb v48 3) < val4 z0 z1 z2 z3 then 1 else 0) -> ∀ v52, v52 = (limb v50 0 == x0 && (limb v50 1 == x1 && (limb v50 2 == x2 && (limb v50 3 == x3 && true)))) -> (v52 = true -> ∀ v53, v53 = (v49 == v51) -> (v53 = true -> (U64 18446744073709551615 /\ U64 18446744073709551615 /\ U64 18446744073709551615 /\ U64 18446744073709551615 /\ U64 1 /\ U64 0 /\ U64 0 /\ U64 0) /\ ∀ (v54 : Int), v54 = (115792089237316195423570985008687907853269984665640564039457584007913129639936 : Int) -> ∀ (v55 : Int), v55 = (1 : Int) -> (U64 0 /\ U64 0 /\ U64 0 /\ U64 9223372036854775808 /\ U64 2 /\ U64 0 /\ U64 0 /\ U64 0) /\ ∀ (v56 : Int), v56 = (115792089237316195423570985008687907853269984665640564039457584007913129639936 : Int) -> ∀ (v57 : Int), v57 = (1 : Int) -> (U64 7 /\ U64 0 /\ U64 0 /\ U64 0 /\ U64 0 /\ U64 0 /\ U64 0 /\ U64 0 /\ U64 2 /\ U64 0 /\ U64 0 /\ U64 0) /\ ∀ (v58 : Int), v58 = (3 : Int) -> ∀ (v59 : Int), v59 = (0 : Int) -> ∀ (v60 : Int), v60 = (1 : Int) -> ∀ (v61 : Int), v61 = (0 : Int) -> ∀ v62, v62 = (limb v54 0 == (0 : Int) && (limb v54 1 == (0 : Int) && (limb v54 2 == (0 : Int) && (limb v54 3 == (0 : Int) && true)))) -> (v62 = true -> ∀ v63, v63 = (v55 == (1 : Int)) -> (v63 = true -> ∀ v64, v64 = (limb v56 0 == (0 : Int) && (limb v56 1 == (0 : Int) && (limb v56 2 == (0 : Int) && (limb v56 3 == (0 : Int) && true)))) -> (v64 = true -> ∀ v65, v65 = (limb v57 0 == (1 : Int) && (limb v57 1 == (0 : Int) && (limb v57 2 == (0 : Int) && (limb v57 3 == (0 : Int) && true)))) -> (v65 = true -> ∀ v66, v66 = (limb v58 0 == (3 : Int) && (limb v58 1 == (0 : Int) && (limb v58 2 == (0 : Int) && (limb v58 3 == (0 : Int) && true)))) -> (v66 = true -> ∀ v67, v67 = (limb v59 0 == (0 : Int) && (limb v59 1 == (0 : Int) && (limb v59 2 == (0 : Int) && (limb v59 3 == (0 : Int) && true)))) -> (v67 = true -> ∀ v68, v68 = (limb v60 0 == (1 : Int) && (limb v60 1 == (0 : Int) && (limb v60 2 == (0 : Int) && (limb v60 3 == (0 : Int) && true)))) -> (v68 = true -> ∀ v69, v69 = (v61 == (0 : Int)) -> (v69 = true -> (U64 18446744073709551615 /\ U64 18446744073709551615 /\ U64 18446744073709551615 /\ U64 18446744073709551615) /\ ∀ (v70 : Int), v70 = (256 : Int) -> ∀ v71, v71 = (v70 == (256 : Int)) -> (v71 = true -> (U64 10 /\ U64 0 /\ U64 0 /\ U64 0 /\ tabW w0) /\ ∀ (v72 : ByteArray), v72 = bytesL [48, 48, 48, 48, 48, 48, 48, 48, 48, 48, 48, 48, 48, 48, 48, 48, 48, 48, 48, 48, 48, 48, 48, 48, 48, 48, 48, 48, 48, 48, 48, 48, 48, 48, 48, 48, 48, 48, 48, 48, 48, 48, 48, 48, 48, 48, 48, 48, 48, 48, 48, 48, 48, 48, 48, 48, 48, 48, 48, 48, 48, 48, 48, 97] -> ((0 : Int) ≤ (63 : Int) /\ (63 : Int) ≤ ↑v72.size /\ (↑v72.size : Int) ≤ ↑v72.size) /\ ∀ (v73 : ByteArray), v73 = v72.extract 63 (↑v72.size : Int).toNat -> ∀ v74, v74 = (v73 == bytesL [97]) -> v74 = true) /\ (v71 = false -> false = true)) /\ (v69 = false -> false = true)) /\ (v68 = false -> false = true)) /\ (v67 = false -> false = true)) /\ (v66 = false -> false = true)) /\ (v65 = false -> false = true)) /\ (v64 = false -> false = true)) /\ (v63 = false -> false = true)) /\ (v62 = false -> false = true)) /\ (v53 = false -> false = true)) /\ (v52 = false -> false = true)))) /\ (v14 = true -> false = true)) /\ (v13 = true -> false = true)) /\ (v12 = true -> false = true)) /\ (v11 = true -> false = true)) /\ (v10 = true -> false = true)
theorem tieNumBack (w0 : World) (x0 : Int) (x1 : Int) (x2 : Int) (x3 : Int) (z0 : Int) (z1 : Int) (z2 : Int) (z3 : Int) (s : ByteArray) : VCNumBack w0 x0 x1 x2 x3 z0 z1 z2 z3 s = ((recN (GW Tryd.prog nd4Spec nd4wSpec [] [] [] [] w0) 90).call 7 [.agg [.int .u64 (.sym x0), .int .u64 (.sym x1), .int .u64 (.sym x2), .int .u64 (.sym x3)], .agg [.int .u64 (.sym z0), .int .u64 (.sym z1), .int .u64 (.sym z2), .int .u64 (.sym z3)], .str (.sym s)] [] (fun v _ => isTrue v)) := by kernel_rfl
theorem pureNumBack (w0 : World) (x0 x1 x2 x3 z0 z1 z2 z3 : Int) (s : ByteArray) (h : U64 x0 ∧ U64 x1 ∧ U64 x2 ∧ U64 x3 ∧ U64 z0 ∧ U64 z1 ∧ U64 z2 ∧ U64 z3 ∧ s.size ≤ 140737488351232 ∧ tabW w0) : VCNumBack w0 x0 x1 x2 x3 z0 z1 z2 z3 s := by
  obtain ⟨hx0, hx1, hx2, hx3, hz0, hz1, hz2, hz3, hs, ht⟩ := h
  have ex0 : U64 x0 = True := eq_true hx0
  have ex1 : U64 x1 = True := eq_true hx1
  have ex2 : U64 x2 = True := eq_true hx2
  have ex3 : U64 x3 = True := eq_true hx3
  have ez0 : U64 z0 = True := eq_true hz0
  have ez1 : U64 z1 = True := eq_true hz1
  have ez2 : U64 z2 = True := eq_true hz2
  have ez3 : U64 z3 = True := eq_true hz3
  have et : tabW w0 = True := eq_true ht
  have u1 : U64 18446744073709551615 = True := eq_true (by decide)
  have u2 : U64 9223372036854775808 = True := eq_true (by decide)
  have u3 : U64 0 = True := eq_true (by decide)
  have u4 : U64 1 = True := eq_true (by decide)
  have u5 : U64 2 = True := eq_true (by decide)
  have u6 : U64 7 = True := eq_true (by decide)
  have u7 : U64 10 = True := eq_true (by decide)
  have ul : ∀ (x : Int) (j : Nat), U64 (limb x j) = True := fun x j => eq_true (limb_in x j)
  obtain ⟨l0, l1, l2, l3⟩ := limbs4' hx0 hx1 hx2 hx3
  have hV : 0 ≤ val4 x0 x1 x2 x3 ∧ val4 x0 x1 x2 x3 < 115792089237316195423570985008687907853269984665640564039457584007913129639936 := by unfold U64 at hx0 hx1 hx2 hx3; unfold val4; omega
  have hW : 0 ≤ val4 z0 z1 z2 z3 ∧ val4 z0 z1 z2 z3 < 115792089237316195423570985008687907853269984665640564039457584007913129639936 := by unfold U64 at hz0 hz1 hz2 hz3; unfold val4; omega
  generalize hVV : val4 x0 x1 x2 x3 = V at *
  generalize hWW : val4 z0 z1 z2 z3 = W at *
  obtain ⟨a1, a2⟩ := text_parse hV.1 hV.2
  have a3 := be_big hV.1 hV.2
  have a4 := leF_little hV.1 hV.2
  have a5 : erF ((bigF V).size : Int) 32 = 0 := by rw [big_size]; decide
  have a6 : erF ((littleF V).size : Int) 32 = 0 := by rw [little_size]; decide
  have a7 : ((bigF V).size ≤ 140737488355328) = True := eq_true (by have := big_size V; omega)
  have a8 : val4 (limb (V + W) 0) (limb (V + W) 1) (limb (V + W) 2) (limb (V + W) 3) = (V + W) % 115792089237316195423570985008687907853269984665640564039457584007913129639936 := val4_limb _
  obtain ⟨⟨_, c0⟩, ⟨_, c1⟩, ⟨_, c2⟩, ⟨_, c3⟩, _⟩ := limb_cong (x := (V + W) % 115792089237316195423570985008687907853269984665640564039457584007913129639936 - W) (y := V) (by omega)
  have a9 : (V + W) / 115792089237316195423570985008687907853269984665640564039457584007913129639936 = if (V + W) % 115792089237316195423570985008687907853269984665640564039457584007913129639936 < W then 1 else 0 := by split <;> omega
  unfold VCNumBack
  by_cases hE : paE s = 0
  · have p1 := parse_text hE
    have pv : val4 (limb (paF s) 0) (limb (paF s) 1) (limb (paF s) 2) (limb (paF s) 3) = paF s := by
      have hd := (paE_dg hE).2
      have p : (16 : Int) ^ 16 = 18446744073709551616 := by decide +kernel
      have q : ∀ j : Nat, j < 4 → 0 ≤ paR s j 16 ∧ paR s j 16 ≤ 18446744073709551615 := fun j hj => by
        have := paR_in hd j hj 16 (Nat.le_refl _); rw [p] at this; omega
      have a := q 0 (by decide)
      have b := q 1 (by decide)
      have c := q 2 (by decide)
      have d := q 3 (by decide)
      apply val4_limb'
      · unfold paF; rw [if_pos hE]; unfold val4; omega
      · unfold paF; rw [if_pos hE]; unfold val4; omega
    simp only [forall_eq, hVV, hWW, a1, a2, a3, a4, a5, a6, a7, a8, a9, c0, c1, c2, c3, l0, l1, l2, l3, hE, p1, pv, ul, et, ba_rfl, ex0, ex1, ex2, ex3, ez0, ez1, ez2, ez3, u1, u2, u3, u4, u5, u6, u7, true_and, beq_self_eq_true, Bool.and_self, Bool.and_true, Bool.not_true, bne_self_eq_false, lim1.1, lim1.2.1, lim1.2.2.1, lim1.2.2.2, lim2.1, lim2.2.1, lim2.2.2.1, lim2.2.2.2, lim3.1, lim3.2.1, lim3.2.2.1, lim3.2.2.2, lim0.1, lim0.2.1, lim0.2.2.1, lim0.2.2.2, reduceCtorEq, false_implies, and_true, true_implies]
    exact ⟨by decide +kernel, by decide +kernel⟩
  · have hE2 : (paE s == 0) = false := beq_eq_false_iff_ne.2 hE
    simp only [forall_eq, hVV, hWW, a1, a2, a3, a4, a5, a6, a7, a8, a9, c0, c1, c2, c3, l0, l1, l2, l3, hE2, ul, et, ba_rfl, ex0, ex1, ex2, ex3, ez0, ez1, ez2, ez3, u1, u2, u3, u4, u5, u6, u7, true_and, beq_self_eq_true, Bool.and_self, Bool.and_true, Bool.not_true, bne_self_eq_false, lim1.1, lim1.2.1, lim1.2.2.1, lim1.2.2.2, lim2.1, lim2.2.1, lim2.2.2.1, lim2.2.2.2, lim3.1, lim3.2.1, lim3.2.2.1, lim3.2.2.2, lim0.1, lim0.2.1, lim0.2.2.1, lim0.2.2.2, reduceCtorEq, false_implies, and_true, true_implies]
    exact ⟨by decide +kernel, by decide +kernel⟩
theorem walkNumBack (x0 : Int) (x1 : Int) (x2 : Int) (x3 : Int) (z0 : Int) (z1 : Int) (z2 : Int) (z3 : Int) (s : ByteArray) (w0 : World) (hx0 : (Lit.int .u64 x0).wf = true) (hx1 : (Lit.int .u64 x1).wf = true) (hx2 : (Lit.int .u64 x2).wf = true) (hx3 : (Lit.int .u64 x3).wf = true) (hz0 : (Lit.int .u64 z0).wf = true) (hz1 : (Lit.int .u64 z1).wf = true) (hz2 : (Lit.int .u64 z2).wf = true) (hz3 : (Lit.int .u64 z3).wf = true) (hs : s.size ≤ 140737488351232) (hT : tabW w0) : Calls Tryd.prog 7 #[.agg #[.int .u64 x0, .int .u64 x1, .int .u64 x2, .int .u64 x3], .agg #[.int .u64 z0, .int .u64 z1, .int .u64 z2, .int .u64 z3], .string s] w0 fun e w' => e = .returned (.bool true) ∧ Below w0.heap.size w0 w' :=
  law_tie (G := GW Tryd.prog nd4Spec nd4wSpec [] [] [] [] w0) (gokW w0 namesOk_ mixed_ nd4_ok nd4w_ok) (n := 90) (f := 7) (args := [.agg [.int .u64 (.sym x0), .int .u64 (.sym x1), .int .u64 (.sym x2), .int .u64 (.sym x3)], .agg [.int .u64 (.sym z0), .int .u64 (.sym z1), .int .u64 (.sym z2), .int .u64 (.sym z3)], .str (.sym s)]) (by kernel_rfl) (VCNumBack w0 x0 x1 x2 x3 z0 z1 z2 z3 s) (tieNumBack w0 x0 x1 x2 x3 z0 z1 z2 z3 s) (pureNumBack w0 x0 x1 x2 x3 z0 z1 z2 z3 s ⟨wf_u64 hx0, wf_u64 hx1, wf_u64 hx2, wf_u64 hx3, wf_u64 hz0, wf_u64 hz1, wf_u64 hz2, wf_u64 hz3, hs, hT⟩)

end Go.Proofs.YtaaobpalpcdlbaaDoor.Bits
