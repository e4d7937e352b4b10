import Derived.Test.YtaaobpalpcdlbaaNum7
namespace Go.Proofs.Ytaaobpalpcdlbaa.Bits
open Go Go.Sx Go.RowKit
set_option linter.unusedVariables false
set_option maxRecDepth 100000
def rwf (a b : Int) (s : Nat) : Int := a / 2 ^ s + b % 2 ^ s * 2 ^ (64 - s)
theorem pw_mul {s : Nat} (hs : s ≤ 63) : (2 : Int) ^ s * 2 ^ (64 - s) = 18446744073709551616 := by
  rw [← Int.pow_add, show s + (64 - s) = 64 by omega]; rfl
theorem rwf_in {a b : Int} {s : Nat} (ha : 0 ≤ a ∧ a ≤ 18446744073709551615) (hb : 0 ≤ b ∧ b ≤ 18446744073709551615) (hs : s ≤ 63) :
    (0 ≤ a / 2 ^ s ∧ a / 2 ^ s < 2 ^ (64 - s)) ∧ 0 ≤ b % 2 ^ s ∧ b % 2 ^ s * 2 ^ (64 - s) ≤ 18446744073709551616 - 2 ^ (64 - s) ∧ 0 ≤ b % 2 ^ s * 2 ^ (64 - s) ∧ 0 ≤ rwf a b s ∧ rwf a b s ≤ 18446744073709551615 := by
  have p0 : (0 : Int) < 2 ^ s := Int.pow_pos (by omega)
  have P0 : (0 : Int) < 2 ^ (64 - s) := Int.pow_pos (by omega)
  have e := pw_mul hs
  have a1 : 0 ≤ a / 2 ^ s := Int.ediv_nonneg ha.1 (by omega)
  have a2 : a / 2 ^ s < 2 ^ (64 - s) := Int.ediv_lt_of_lt_mul p0 (by rw [Int.mul_comm, e]; omega)
  have b1 := Int.emod_nonneg b (show (2 : Int) ^ s ≠ 0 by omega)
  have b2 := Int.emod_lt_of_pos b p0
  have b3 := Int.mul_le_mul_of_nonneg_right (show b % 2 ^ s ≤ 2 ^ s - 1 by omega) (show (0 : Int) ≤ 2 ^ (64 - s) by omega)
  rw [Int.sub_mul, e, Int.one_mul] at b3
  have b4 := Int.mul_nonneg b1 (show (0 : Int) ≤ 2 ^ (64 - s) by omega)
  unfold rwf
  exact ⟨⟨a1, a2⟩, b1, b3, b4, by omega, by omega⟩
theorem rStep {a b : Int} {s : Nat} {K : Int → Prop} (ha : 0 ≤ a ∧ a ≤ 18446744073709551615) (hb : 0 ≤ b ∧ b ≤ 18446744073709551615) (hs : s ≤ 63) (h : K (rwf a b s)) :
    decide (0 ≤ (s : Int)) = true ∧ ∀ v1 : Int, v1 = shrI .u64 a (s : Int) → ∀ v2 : Int, v2 = shlI .u64 b 1 → ∀ v3 : Int, v3 = IntKind.i64.wrap (63 - (s : Int)) → decide (0 ≤ v3) = true ∧ ∀ v4 : Int, v4 = shlI .u64 v2 v3 → ∀ v5 : Int, v5 = bitI .or .u64 v1 v4 → K v5 := by
  obtain ⟨⟨a1, a2⟩, b1, b3, b4, r1, r2⟩ := rwf_in ha hb hs
  refine ⟨by simp, fun v1 h1 v2 h2 v3 h3 => ⟨?_, fun v4 h4 v5 h5 => ?_⟩⟩
  · rw [i64_id (by omega) (by omega)] at h3; simp; omega
  rw [i64_id (by omega) (by omega)] at h3
  rw [shr_eq .u64 a s (by simp only [IntKind.bits]; omega)] at h1
  rw [shlN .u64 _ 1 _ 2, w_u64] at h2
  rw [show v3 = ((63 - s : Nat) : Int) by omega, shl_eq .u64 v2 (63 - s) (by simp only [IntKind.bits]; omega), w_u64, h2, Int.mul_emod, Int.emod_emod_of_dvd _ (Int.dvd_refl _), ← Int.mul_emod, Int.mul_assoc, ← Int.pow_succ', show 63 - s + 1 = 64 - s by omega] at h4
  have e4 : v4 = b % 2 ^ s * 2 ^ (64 - s) := by
    rw [h4, ← pw_mul hs, Int.mul_comm b, Int.mul_comm (2 ^ s), Int.mul_emod_mul_of_pos _ _ (Int.pow_pos (by omega)), Int.mul_comm]
  have e5 : v5 = rwf a b s := by
    unfold rwf at r2 ⊢
    rw [h5, h1, e4, or_comm_u64, or_parts_u64 b1 a1 a2 (by omega) (by omega) (by omega)]
    omega
  rw [e5]; exact h
theorem rval {w0 w1 w2 w3 r : Int} {s : Nat} (hs : s ≤ 63) (h : val4 w0 w1 w2 w3 = r * 2 ^ s) :
    val4 (rwf w0 w1 s) (rwf w1 w2 s) (rwf w2 w3 s) (rwf w3 0 s) = r := by
  have p0 : (0 : Int) < 2 ^ s := Int.pow_pos (by omega)
  have e := pw_mul hs
  have d0 := Int.emod_add_mul_ediv w0 (2 ^ s)
  have d1 := Int.emod_add_mul_ediv w1 (2 ^ s)
  have d2 := Int.emod_add_mul_ediv w2 (2 ^ s)
  have d3 := Int.emod_add_mul_ediv w3 (2 ^ s)
  have z0 := Int.emod_nonneg w0 (show (2 : Int) ^ s ≠ 0 by omega)
  have z1 := Int.emod_lt_of_pos w0 p0
  unfold rwf
  generalize w0 / 2 ^ s = a0 at *
  generalize w1 / 2 ^ s = a1 at *
  generalize w2 / 2 ^ s = a2 at *
  generalize w3 / 2 ^ s = a3 at *
  generalize w0 % 2 ^ s = b0 at *
  generalize w1 % 2 ^ s = b1 at *
  generalize w2 % 2 ^ s = b2 at *
  generalize w3 % 2 ^ s = b3 at *
  rw [show (0 : Int) % 2 ^ s = 0 by simp]
  generalize (2 : Int) ^ (64 - s) = P at *
  generalize (2 : Int) ^ s = p at *
  have k : p * val4 (a0 + b1 * P) (a1 + b2 * P) (a2 + b3 * P) (a3 + 0 * P) = val4 w0 w1 w2 w3 - b0 := by
    have t : ∀ x : Int, p * (x * P) = x * 18446744073709551616 := fun x => by rw [← e]; grind
    have t1 := t b1
    have t2 := t b2
    have t3 := t b3
    have x : p * val4 (a0 + b1 * P) (a1 + b2 * P) (a2 + b3 * P) (a3 + 0 * P) = p * a0 + p * (b1 * P) + (p * a1 + p * (b2 * P)) * 18446744073709551616 + (p * a2 + p * (b3 * P)) * 340282366920938463463374607431768211456 + p * a3 * 6277101735386680763835789423207666416102355444464034512896 := by
      unfold val4; grind
    rw [x, t1, t2, t3]
    unfold val4
    omega
  rw [h] at k
  generalize val4 (a0 + b1 * P) (a1 + b2 * P) (a2 + b3 * P) (a3 + 0 * P) = X at *
  have k2 : p * (r - X) = b0 := by rw [Int.mul_sub, k, Int.mul_comm]; omega
  rcases Int.lt_trichotomy (r - X) 0 with c | c | c
  · have := Int.mul_le_mul_of_nonneg_left (show r - X ≤ -1 by omega) (Int.le_of_lt p0)
    omega
  · omega
  · have := Int.mul_le_mul_of_nonneg_left (show 1 ≤ r - X by omega) (Int.le_of_lt p0)
    omega
theorem sval {l0 l1 l2 l3 l4 l5 l6 l7 : Int} {s : Nat} (hs : s ≤ 63) :
    val4 (shw l0 0 s) (shw l1 l0 s) (shw l2 l1 s) (shw l3 l2 s) + val4 (shw l4 l3 s) (shw l5 l4 s) (shw l6 l5 s) (shw l7 l6 s) * 115792089237316195423570985008687907853269984665640564039457584007913129639936
      + shw 0 l7 s * 13407807929942597099574024998205846127479365820592393377723561443721764030073546976801874298166903427690031858186486050853753882811946569946433649006084096 = val8 l0 l1 l2 l3 l4 l5 l6 l7 * 2 ^ s := by
  have e := pw_mul hs
  have p0 : (2 : Int) ^ s ≠ 0 := Int.pow_ne_zero (by omega)
  have d : ∀ l : Int, l * 2 ^ s = l / 2 ^ (64 - s) * 18446744073709551616 + l * 2 ^ s % 18446744073709551616 := fun l => by
    have a := Int.emod_add_mul_ediv (l * 2 ^ s) 18446744073709551616
    have b : l * 2 ^ s / 18446744073709551616 = l / 2 ^ (64 - s) := by rw [← e, Int.mul_comm l, Int.mul_ediv_mul_of_pos _ _ (Int.pow_pos (by omega))]
    rw [b] at a; omega
  have x : val8 l0 l1 l2 l3 l4 l5 l6 l7 * 2 ^ s = val4 (l0 * 2 ^ s) (l1 * 2 ^ s) (l2 * 2 ^ s) (l3 * 2 ^ s) + val4 (l4 * 2 ^ s) (l5 * 2 ^ s) (l6 * 2 ^ s) (l7 * 2 ^ s) * 115792089237316195423570985008687907853269984665640564039457584007913129639936 := by
    unfold val8 val4; grind
  rw [x]
  have d0 := d l0
  have d1 := d l1
  have d2 := d l2
  have d3 := d l3
  have d4 := d l4
  have d5 := d l5
  have d6 := d l6
  have d7 := d l7
  unfold shw
  rw [show (0 : Int) * 2 ^ s % 18446744073709551616 = 0 by simp, show (0 : Int) / 2 ^ (64 - s) = 0 by simp]
  generalize l0 * 2 ^ s = y0 at *
  generalize l1 * 2 ^ s = y1 at *
  generalize l2 * 2 ^ s = y2 at *
  generalize l3 * 2 ^ s = y3 at *
  generalize l4 * 2 ^ s = y4 at *
  generalize l5 * 2 ^ s = y5 at *
  generalize l6 * 2 ^ s = y6 at *
  generalize l7 * 2 ^ s = y7 at *
  unfold val4
  omega
theorem norm {M : Int} (n : Nat) {s : Nat} (h0 : 0 < M) (hl : lenF M = 64 * (n : Int) - (s : Int)) : 2 ^ (64 * n - 1) ≤ M * 2 ^ s ∧ M * 2 ^ s < 2 ^ (64 * n) := by
  obtain ⟨k, ek, k1, k2⟩ := lenF_spec h0
  have e : 64 * n = k + 1 + s := by omega
  have p0 : (0 : Int) < 2 ^ s := Int.pow_pos (by omega)
  rw [show 64 * n - 1 = k + s by omega, e, Int.pow_add, Int.pow_add]
  exact ⟨Int.mul_le_mul_of_nonneg_right k1 (Int.le_of_lt p0), Int.mul_lt_mul_of_pos_right k2 p0⟩
theorem divFin {N M D U Q R : Int} {s : Nat} (hM : 0 < M) (hD : D = M * 2 ^ s) (hU : U = N * 2 ^ s) (h : U = Q * D + R) (h0 : 0 ≤ R) (h1 : R < D) : Q = N / M ∧ R = (N % M) * 2 ^ s := by
  have p0 : (0 : Int) < 2 ^ s := Int.pow_pos (by omega)
  have e : R = (N - Q * M) * 2 ^ s := by
    rw [Int.sub_mul, Int.mul_assoc, ← hD, ← hU, h]; omega
  generalize (2 : Int) ^ s = p at *
  have a : 0 ≤ N - Q * M := by
    rcases Int.lt_or_le (N - Q * M) 0 with c | c
    · have := Int.mul_le_mul_of_nonneg_right (show N - Q * M ≤ -1 by omega) (Int.le_of_lt p0)
      omega
    · exact c
  have b : N - Q * M < M := by
    rcases Int.lt_or_le (N - Q * M) M with c | c
    · exact c
    · have := Int.mul_le_mul_of_nonneg_right c (Int.le_of_lt p0)
      omega
  have q : Q = N / M := quo_eq hM (by omega) (by rw [Int.add_mul]; omega)
  refine ⟨q, ?_⟩
  rw [e]
  congr 1
  have := Int.emod_add_mul_ediv N M
  rw [← q, Int.mul_comm M] at this
  omega
end Go.Proofs.Ytaaobpalpcdlbaa.Bits
