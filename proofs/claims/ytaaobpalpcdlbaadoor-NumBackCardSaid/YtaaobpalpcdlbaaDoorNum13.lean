import Derived.Test.YtaaobpalpcdlbaaDoorSxR
import Derived.Test.YtaaobpalpcdlbaaDoorProg
import Derived.Test.YtaaobpalpcdlbaaDoorNum12
import Derived.KernelRfl
namespace Go.Proofs.YtaaobpalpcdlbaaDoor.Bits
open Go Go.Sx Go.RowKit
set_option linter.unusedVariables false
set_option maxRecDepth 100000
def hNumSpec (S : St) (b : Nat) (x : Int) : St := setWSpec S b 0 (limb x) 4
def invR (a m r s x y : Int) : Prop :=
  0 < m ∧ (0 ≤ s ∧ s < r ∧ r ≤ m) ∧ (0 ≤ x ∧ x < m) ∧ (0 ≤ y ∧ y < m) ∧ m ∣ a * x - r ∧ m ∣ a * y - s ∧ Int.gcd r s = Int.gcd a m
open Classical in
noncomputable def invF (a m : Int) : Int := if h : ∃ x, 0 ≤ x ∧ x < m ∧ m ∣ a * x - 1 then Classical.choose h else 0
def okF (a m : Int) : Bool := decide (m ≠ 0 ∧ Int.gcd a m = 1)
theorem invF_eq {a m x : Int} (h0 : 0 ≤ x) (h1 : x < m) (h2 : m ∣ a * x - 1) : invF a m = x := by
  have h : ∃ x, 0 ≤ x ∧ x < m ∧ m ∣ a * x - 1 := ⟨x, h0, h1, h2⟩
  unfold invF
  rw [dif_pos h]
  obtain ⟨k0, k1, k2⟩ := Classical.choose_spec h
  generalize Classical.choose h = y at *
  obtain ⟨u, hu⟩ := h2
  obtain ⟨v, hv⟩ := k2
  have e : x - y = m * (u * y - v * x) := by
    have e1 : (a * x - 1) * y = (m * u) * y := by rw [hu]
    have e2 : (a * y - 1) * x = (m * v) * x := by rw [hv]
    grind
  generalize u * y - v * x = w at *
  rcases Int.lt_trichotomy w 0 with hw | hw | hw
  · have := Int.mul_le_mul_of_nonneg_left (show w ≤ -1 by omega) (show 0 ≤ m by omega)
    omega
  · rw [hw] at e; omega
  · have := Int.mul_le_mul_of_nonneg_left (show 1 ≤ w by omega) (show 0 ≤ m by omega)
    omega
theorem invF_none {a m : Int} (h : m = 0 ∨ Int.gcd a m ≠ 1) : invF a m = 0 := by
  unfold invF
  rw [dif_neg]
  rintro ⟨x, h0, h1, u, hu⟩
  have d : (Int.gcd a m : Int) ∣ 1 := by
    have e : 1 = a * x - m * u := by omega
    rw [e]
    exact Int.dvd_sub (Int.dvd_trans (Int.gcd_dvd_left ..) (Int.dvd_mul_right ..)) (Int.dvd_trans (Int.gcd_dvd_right ..) (Int.dvd_mul_right ..))
  have d' : Int.gcd a m = 1 := Nat.eq_one_of_dvd_one (Int.natCast_dvd_natCast.1 d)
  omega
theorem gcd_step (r s : Int) : Int.gcd s (r % s) = Int.gcd r s := by
  rw [Int.emod_def, Int.gcd_sub_mul_left_right, Int.gcd_comm]
theorem inv_start {a m : Int} (hm : 0 < m) : invR a m m (a % m) 0 (1 % m) := by
  refine ⟨hm, ⟨Int.emod_nonneg _ (by omega), Int.emod_lt_of_pos _ hm, by omega⟩, by omega, ⟨Int.emod_nonneg _ (by omega), Int.emod_lt_of_pos _ hm⟩, ⟨-1, by omega⟩, ⟨a / m - a * (1 / m), ?_⟩, ?_⟩
  · have e1 := Int.emod_def 1 m
    have e2 := Int.emod_def a m
    rw [e1, e2]; grind
  · rw [gcd_step]
theorem inv_step {a m r s x y : Int} (h : invR a m r s x y) (hs : s ≠ 0) : invR a m s (r % s) y ((x - r / s * y % m) % m) := by
  obtain ⟨hm, ⟨s0, sr, rm⟩, ⟨x0, x1⟩, ⟨y0, y1⟩, ⟨u, hu⟩, ⟨v, hv⟩, g⟩ := h
  refine ⟨hm, ⟨Int.emod_nonneg _ hs, Int.emod_lt_of_pos _ (by omega), by omega⟩, ⟨y0, y1⟩, ⟨Int.emod_nonneg _ (by omega), Int.emod_lt_of_pos _ hm⟩, ⟨v, hv⟩, ?_, by rw [gcd_step, g]⟩
  have e1 := Int.emod_def r s
  have e2 := Int.emod_def (r / s * y) m
  have e3 := Int.emod_def (x - r / s * y % m) m
  rw [e3, e2, e1]
  generalize (x - (r / s * y - m * (r / s * y / m))) / m = k
  generalize r / s * y / m = l
  generalize r / s = q
  refine ⟨u - q * v + a * l - a * k, ?_⟩
  grind
theorem eq4 {a0 a1 a2 a3 b0 b1 b2 b3 : Int} (ha0 : U64 a0) (ha1 : U64 a1) (ha2 : U64 a2) (ha3 : U64 a3) (hb0 : U64 b0) (hb1 : U64 b1) (hb2 : U64 b2) (hb3 : U64 b3) :
    (a0 == b0 && (a1 == b1 && (a2 == b2 && (a3 == b3 && true)))) = decide (val4 a0 a1 a2 a3 = val4 b0 b1 b2 b3) := by
  unfold U64 at *
  rw [Bool.eq_iff_iff]
  simp only [Bool.and_eq_true, beq_iff_eq, decide_eq_true_eq, and_true]
  constructor
  · rintro ⟨rfl, rfl, rfl, rfl⟩; rfl
  · intro h; unfold val4 at h; omega
theorem eq4l {x : Int} (h0 : 0 ≤ x) (h1 : x < 115792089237316195423570985008687907853269984665640564039457584007913129639936) {b0 b1 b2 b3 : Int} (hb0 : U64 b0) (hb1 : U64 b1) (hb2 : U64 b2) (hb3 : U64 b3) :
    (limb x 0 == b0 && (limb x 1 == b1 && (limb x 2 == b2 && (limb x 3 == b3 && true)))) = decide (x = val4 b0 b1 b2 b3) := by
  rw [eq4 (limb_in ..) (limb_in ..) (limb_in ..) (limb_in ..) hb0 hb1 hb2 hb3, val4_limb' h0 h1]
theorem limb0 (j : Nat) : limb 0 j = 0 := by unfold limb; simp
theorem limb00 : (IntKind.u64 = IntKind.u64 ∧ (0 : Int) = limb 0 0) ∧ (IntKind.u64 = IntKind.u64 ∧ (0 : Int) = limb 0 1) ∧ (IntKind.u64 = IntKind.u64 ∧ (0 : Int) = limb 0 2) ∧ (IntKind.u64 = IntKind.u64 ∧ (0 : Int) = limb 0 3) ∧ True :=
  ⟨⟨rfl, (limb0 0).symm⟩, ⟨rfl, (limb0 1).symm⟩, ⟨rfl, (limb0 2).symm⟩, ⟨rfl, (limb0 3).symm⟩, trivial⟩
theorem brnd {X A B : Prop} [Decidable X] (h1 : ¬ X → A) (h2 : X → B) (v : Bool) (h : v = !decide X) : (v = true → A) ∧ (v = false → B) := by
  subst h; by_cases x : X <;> simp [x, h1, h2]
theorem U64_0 : U64 0 := by unfold U64; omega
theorem U64_1 : U64 1 := by unfold U64; omega
end Go.Proofs.YtaaobpalpcdlbaaDoor.Bits
