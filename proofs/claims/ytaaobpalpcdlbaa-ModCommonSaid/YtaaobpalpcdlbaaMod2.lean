/- There is an inverse just if the two have no divisor but 1 in common. -/
import Derived.Test.YtaaobpalpcdlbaaSxN
import Derived.Test.YtaaobpalpcdlbaaSxP
import Derived.Test.YtaaobpalpcdlbaaSxR
import Derived.Test.YtaaobpalpcdlbaaProg
import Derived.Test.YtaaobpalpcdlbaaInv1
import Derived.KernelRfl
namespace Go.Proofs.Ytaaobpalpcdlbaa.Bits
open Go Go.Sx Go.RowKit
set_option linter.unusedVariables false
set_option maxRecDepth 100000
def comR (a m i r s : Int) : Prop := 0 < m ∧ (0 ≤ i ∧ i ≤ 600) ∧ (0 ≤ s ∧ s < r ∧ r ≤ m) ∧ Int.gcd r s = Int.gcd a m ∧ r * s * 2 ^ i.toNat ≤ 2 ^ 256 * 2 ^ 256
def comASpec : St → Inv := fun S =>
  { ι := Int × Int × Int
    T := fun p => stS (keepS (hNumSpec (hNumSpec S 2 p.2.1) 3 p.2.2) [2, 3, 4, 5, 6]) [(18, .int .i64 (.sym p.1))]
    R := fun p => comR (val4 (hat S 0 0) (hat S 0 1) (hat S 0 2) (hat S 0 3)) (val4 (hat S 1 0) (hat S 1 1) (hat S 1 2) (hat S 1 3)) p.1 p.2.1 p.2.2
    μ := fun p => (600 - p.1).toNat }
def comAnnSpec : Anns := [(4, 0, comASpec)]
def comCutSpec : Anns := []
def comSpec : List (FuncId × CSpec) := [(18, mInvSpec), (24, mMulSpec), (23, remSpec), (25, rCmpSpec), (22, awake2Spec)]
theorem com_ok : SpecsOk Try.prog comSpec := ⟨mInv_ok, mMul_ok, rem_ok, rCmp_ok, awake2_ok, trivial⟩
theorem com_start {a m : Int} (h0 : 0 < m) (h1 : m < 115792089237316195423570985008687907853269984665640564039457584007913129639936) : comR a m 0 m (a % m) := by
  have b0 := Int.emod_nonneg a (show m ≠ 0 by omega)
  have b1 := Int.emod_lt_of_pos a h0
  refine ⟨h0, by omega, ⟨b0, b1, by omega⟩, gcd_step a m, ?_⟩
  have := Int.mul_le_mul (show m ≤ 115792089237316195423570985008687907853269984665640564039457584007913129639936 by omega) (show a % m ≤ 115792089237316195423570985008687907853269984665640564039457584007913129639936 by omega) b0 (by omega)
  have e : (115792089237316195423570985008687907853269984665640564039457584007913129639936 : Int) * 115792089237316195423570985008687907853269984665640564039457584007913129639936 = 2 ^ 256 * 2 ^ 256 := by decide +kernel
  rw [e] at this
  simpa using this
theorem com_step {a m i r s : Int} (h : comR a m i r s) (hs : s ≠ 0) (hi : i < 600) : comR a m (i + 1) s (r % s) := by
  obtain ⟨h0, ⟨i0, i1⟩, ⟨s0, s1, s2⟩, g, p⟩ := h
  have b0 := Int.emod_nonneg r hs
  have b1 := Int.emod_lt_of_pos r (show 0 < s by omega)
  refine ⟨h0, by omega, ⟨b0, b1, by omega⟩, by rw [gcd_step, g], ?_⟩
  obtain ⟨k, rfl⟩ := Int.eq_ofNat_of_zero_le i0
  have e : ((k : Int) + 1).toNat = k + 1 := by omega
  have e' : (k : Int).toNat = k := rfl
  rw [e'] at p
  rw [e, Int.pow_succ]
  have h2 : r % s * 2 ≤ r := by
    have d := Int.emod_add_mul_ediv r s
    have q : 1 ≤ r / s := Int.le_ediv_of_mul_le (by omega) (by omega)
    have := Int.mul_le_mul_of_nonneg_left q s0
    omega
  have h3 : s * (r % s) * 2 ≤ r * s := by
    have := Int.mul_le_mul_of_nonneg_left h2 s0
    rw [Int.mul_comm r s, Int.mul_assoc]; exact this
  have h4 := Int.mul_le_mul_of_nonneg_right h3 (show (0 : Int) ≤ 2 ^ k from Int.le_of_lt (Int.pow_pos (by omega)))
  have e3 : s * (r % s) * (2 ^ k * 2) = s * (r % s) * 2 * 2 ^ k := by grind
  rw [e3]; omega
theorem com_end {a m i r s : Int} (h : comR a m i r s) (hi : ¬ i < 600) : s = 0 := by
  obtain ⟨h0, ⟨i0, i1⟩, ⟨s0, s1, s2⟩, g, p⟩ := h
  have e : i = 600 := by omega
  subst e
  by_cases z : s = 0
  · exact z
  · exfalso
    have h1 : 1 ≤ r * s := by have := Int.mul_le_mul (show 1 ≤ r by omega) (show 1 ≤ s by omega) (by omega) (by omega); omega
    have h2 := Int.mul_le_mul_of_nonneg_right h1 (show (0 : Int) ≤ 2 ^ 600 by decide +kernel)
    have e : (600 : Int).toNat = 600 := rfl
    rw [e] at p
    have : (2 : Int) ^ 600 ≤ 2 ^ 256 * 2 ^ 256 := by omega
    exact absurd this (by decide +kernel)
theorem com_gcd {a m i r : Int} (h : comR a m i r 0) : (r = 1 ↔ Int.gcd a m = 1) := by
  obtain ⟨h0, ⟨i0, i1⟩, ⟨s0, s1, s2⟩, g, p⟩ := h
  rw [Int.gcd_zero_right] at g
  omega
def VCModCommon (a0 : Int) (a1 : Int) (a2 : Int) (a3 : Int) (m0 : Int) (m1 : Int) (m2 : Int) (m3 : Int) : Prop :=
  ∀ (v1 : Bool), v1 = (m0 == (0 : Int) && (m1 == (0 : Int) && (m2 == (0 : Int) && (m3 == (0 : Int) && true)))) → (v1 = true → True ∧ true = true) ∧ (v1 = false → (U64 a0 ∧ U64 a1 ∧ U64 a2 ∧ U64 a3 ∧ U64 (0 : Int) ∧ U64 (0 : Int) ∧ U64 (0 : Int) ∧ U64 (0 : Int) ∧ U64 m0 ∧ U64 m1 ∧ U64 m2 ∧ U64 m3) ∧ ∀ (v2 : Int), v2 = rF (val4 a0 a1 a2 a3) (0 : Int) (val4 m0 m1 m2 m3) → (∃ (x3 : Int × Int × Int), comR (val4 a0 a1 a2 a3) (val4 m0 m1 m2 m3) x3.fst x3.snd.fst x3.snd.snd ∧ (True ∧ True ∧ false = false ∧ True ∧ True ∧ (0 : Int) = x3.fst ∧ True) ∧ (a0 = a0 ∧ a1 = a1 ∧ a2 = a2 ∧ a3 = a3 ∧ True) ∧ (m0 = m0 ∧ m1 = m1 ∧ m2 = m2 ∧ m3 = m3 ∧ True) ∧ (m0 = limb x3.snd.fst (0 : Nat) ∧ m1 = limb x3.snd.fst (1 : Nat) ∧ m2 = limb x3.snd.fst (2 : Nat) ∧ m3 = limb x3.snd.fst (3 : Nat) ∧ True) ∧ (limb v2 (0 : Nat) = limb x3.snd.snd (0 : Nat) ∧ limb v2 (1 : Nat) = limb x3.snd.snd (1 : Nat) ∧ limb v2 (2 : Nat) = limb x3.snd.snd (2 : Nat) ∧ limb v2 (3 : Nat) = limb x3.snd.snd (3 : Nat) ∧ True) ∧ True) ∧ ∀ (v4 : Int × Int × Int), comR (val4 a0 a1 a2 a3) (val4 m0 m1 m2 m3) v4.fst v4.snd.fst v4.snd.snd → ∀ (v5 : Bool), v5 = decide (v4.fst < (600 : Int)) → (v5 = true → ∀ (v6 : Bool), v6 = (limb v4.snd.snd (0 : Nat) == (0 : Int) && (limb v4.snd.snd (1 : Nat) == (0 : Int) && (limb v4.snd.snd (2 : Nat) == (0 : Int) && (limb v4.snd.snd (3 : Nat) == (0 : Int) && true)))) → (v6 = true → (U64 a0 ∧ U64 a1 ∧ U64 a2 ∧ U64 a3 ∧ U64 m0 ∧ U64 m1 ∧ U64 m2 ∧ U64 m3) ∧ ∀ (v7 : Int), v7 = invF (val4 a0 a1 a2 a3) (val4 m0 m1 m2 m3) → ∀ (v8 : Bool), v8 = okF (val4 a0 a1 a2 a3) (val4 m0 m1 m2 m3) → ∀ (v9 : Bool), v9 = (limb v4.snd.fst (0 : Nat) == (1 : Int) && (limb v4.snd.fst (1 : Nat) == (0 : Int) && (limb v4.snd.fst (2 : Nat) == (0 : Int) && (limb v4.snd.fst (3 : Nat) == (0 : Int) && true)))) → ∀ (v10 : Bool), v10 = (v8 == v9) → (v10 = true → ∀ (v11 : Bool), v11 = !v8 → (v11 = false → (U64 a0 ∧ U64 a1 ∧ U64 a2 ∧ U64 a3 ∧ U64 (limb v7 (0 : Nat)) ∧ U64 (limb v7 (1 : Nat)) ∧ U64 (limb v7 (2 : Nat)) ∧ U64 (limb v7 (3 : Nat)) ∧ U64 m0 ∧ U64 m1 ∧ U64 m2 ∧ U64 m3) ∧ ∀ (v12 : Int), v12 = modF (val4 a0 a1 a2 a3 * val4 (limb v7 (0 : Nat)) (limb v7 (1 : Nat)) (limb v7 (2 : Nat)) (limb v7 (3 : Nat))) (val4 m0 m1 m2 m3) → (U64 (1 : Int) ∧ U64 (0 : Int) ∧ U64 (0 : Int) ∧ U64 (0 : Int) ∧ U64 (0 : Int) ∧ U64 (0 : Int) ∧ U64 (0 : Int) ∧ U64 (0 : Int) ∧ U64 m0 ∧ U64 m1 ∧ U64 m2 ∧ U64 m3) ∧ ∀ (v13 : Int), v13 = rF (1 : Int) (0 : Int) (val4 m0 m1 m2 m3) → ∀ (v14 : Bool), v14 = (limb v12 (0 : Nat) == limb v13 (0 : Nat) && (limb v12 (1 : Nat) == limb v13 (1 : Nat) && (limb v12 (2 : Nat) == limb v13 (2 : Nat) && (limb v12 (3 : Nat) == limb v13 (3 : Nat) && true)))) → (v14 = true → (U64 (limb v7 (0 : Nat)) ∧ U64 (limb v7 (1 : Nat)) ∧ U64 (limb v7 (2 : Nat)) ∧ U64 (limb v7 (3 : Nat)) ∧ U64 m0 ∧ U64 m1 ∧ U64 m2 ∧ U64 m3) ∧ ∀ (v15 : Int), v15 = cmpF (val4 (limb v7 (0 : Nat)) (limb v7 (1 : Nat)) (limb v7 (2 : Nat)) (limb v7 (3 : Nat))) (val4 m0 m1 m2 m3) → ∀ (v16 : Bool), v16 = decide (v15 < (0 : Int)) → (v16 = true → True ∧ true = true) ∧ (v16 = false → false = true)) ∧ (v14 = false → false = true)) ∧ (v11 = true → True ∧ true = true)) ∧ (v10 = false → false = true)) ∧ (v6 = false → (U64 (limb v4.snd.fst (0 : Nat)) ∧ U64 (limb v4.snd.fst (1 : Nat)) ∧ U64 (limb v4.snd.fst (2 : Nat)) ∧ U64 (limb v4.snd.fst (3 : Nat)) ∧ U64 (0 : Int) ∧ U64 (0 : Int) ∧ U64 (0 : Int) ∧ U64 (0 : Int) ∧ U64 (limb v4.snd.snd (0 : Nat)) ∧ U64 (limb v4.snd.snd (1 : Nat)) ∧ U64 (limb v4.snd.snd (2 : Nat)) ∧ U64 (limb v4.snd.snd (3 : Nat))) ∧ ∀ (v17 : Int), v17 = rF (val4 (limb v4.snd.fst (0 : Nat)) (limb v4.snd.fst (1 : Nat)) (limb v4.snd.fst (2 : Nat)) (limb v4.snd.fst (3 : Nat))) (0 : Int) (val4 (limb v4.snd.snd (0 : Nat)) (limb v4.snd.snd (1 : Nat)) (limb v4.snd.snd (2 : Nat)) (limb v4.snd.snd (3 : Nat))) → ∀ (v18 : Int), v18 = IntKind.i64.wrap (v4.fst + (1 : Int)) → ∃ (x19 : Int × Int × Int), comR (val4 a0 a1 a2 a3) (val4 m0 m1 m2 m3) x19.fst x19.snd.fst x19.snd.snd ∧ ((True ∧ True ∧ false = false ∧ True ∧ True ∧ v18 = x19.fst ∧ True) ∧ (a0 = a0 ∧ a1 = a1 ∧ a2 = a2 ∧ a3 = a3 ∧ True) ∧ (m0 = m0 ∧ m1 = m1 ∧ m2 = m2 ∧ m3 = m3 ∧ True) ∧ (limb v4.snd.snd (0 : Nat) = limb x19.snd.fst (0 : Nat) ∧ limb v4.snd.snd (1 : Nat) = limb x19.snd.fst (1 : Nat) ∧ limb v4.snd.snd (2 : Nat) = limb x19.snd.fst (2 : Nat) ∧ limb v4.snd.snd (3 : Nat) = limb x19.snd.fst (3 : Nat) ∧ True) ∧ (limb v17 (0 : Nat) = limb x19.snd.snd (0 : Nat) ∧ limb v17 (1 : Nat) = limb x19.snd.snd (1 : Nat) ∧ limb v17 (2 : Nat) = limb x19.snd.snd (2 : Nat) ∧ limb v17 (3 : Nat) = limb x19.snd.snd (3 : Nat) ∧ True) ∧ True) ∧ ((600 : Int) - x19.fst).toNat < ((600 : Int) - v4.fst).toNat)) ∧ (v5 = false → (U64 a0 ∧ U64 a1 ∧ U64 a2 ∧ U64 a3 ∧ U64 m0 ∧ U64 m1 ∧ U64 m2 ∧ U64 m3) ∧ ∀ (v20 : Int), v20 = invF (val4 a0 a1 a2 a3) (val4 m0 m1 m2 m3) → ∀ (v21 : Bool), v21 = okF (val4 a0 a1 a2 a3) (val4 m0 m1 m2 m3) → ∀ (v22 : Bool), v22 = (limb v4.snd.fst (0 : Nat) == (1 : Int) && (limb v4.snd.fst (1 : Nat) == (0 : Int) && (limb v4.snd.fst (2 : Nat) == (0 : Int) && (limb v4.snd.fst (3 : Nat) == (0 : Int) && true)))) → ∀ (v23 : Bool), v23 = (v21 == v22) → (v23 = true → ∀ (v24 : Bool), v24 = !v21 → (v24 = false → (U64 a0 ∧ U64 a1 ∧ U64 a2 ∧ U64 a3 ∧ U64 (limb v20 (0 : Nat)) ∧ U64 (limb v20 (1 : Nat)) ∧ U64 (limb v20 (2 : Nat)) ∧ U64 (limb v20 (3 : Nat)) ∧ U64 m0 ∧ U64 m1 ∧ U64 m2 ∧ U64 m3) ∧ ∀ (v25 : Int), v25 = modF (val4 a0 a1 a2 a3 * val4 (limb v20 (0 : Nat)) (limb v20 (1 : Nat)) (limb v20 (2 : Nat)) (limb v20 (3 : Nat))) (val4 m0 m1 m2 m3) → (U64 (1 : Int) ∧ U64 (0 : Int) ∧ U64 (0 : Int) ∧ U64 (0 : Int) ∧ U64 (0 : Int) ∧ U64 (0 : Int) ∧ U64 (0 : Int) ∧ U64 (0 : Int) ∧ U64 m0 ∧ U64 m1 ∧ U64 m2 ∧ U64 m3) ∧ ∀ (v26 : Int), v26 = rF (1 : Int) (0 : Int) (val4 m0 m1 m2 m3) → ∀ (v27 : Bool), v27 = (limb v25 (0 : Nat) == limb v26 (0 : Nat) && (limb v25 (1 : Nat) == limb v26 (1 : Nat) && (limb v25 (2 : Nat) == limb v26 (2 : Nat) && (limb v25 (3 : Nat) == limb v26 (3 : Nat) && true)))) → (v27 = true → (U64 (limb v20 (0 : Nat)) ∧ U64 (limb v20 (1 : Nat)) ∧ U64 (limb v20 (2 : Nat)) ∧ U64 (limb v20 (3 : Nat)) ∧ U64 m0 ∧ U64 m1 ∧ U64 m2 ∧ U64 m3) ∧ ∀ (v28 : Int), v28 = cmpF (val4 (limb v20 (0 : Nat)) (limb v20 (1 : Nat)) (limb v20 (2 : Nat)) (limb v20 (3 : Nat))) (val4 m0 m1 m2 m3) → ∀ (v29 : Bool), v29 = decide (v28 < (0 : Int)) → (v29 = true → True ∧ true = true) ∧ (v29 = false → false = true)) ∧ (v27 = false → false = true)) ∧ (v24 = true → True ∧ true = true)) ∧ (v23 = false → false = true)))
theorem tieModCommon (w0 : World) (a0 : Int) (a1 : Int) (a2 : Int) (a3 : Int) (m0 : Int) (m1 : Int) (m2 : Int) (m3 : Int) : VCModCommon a0 a1 a2 a3 m0 m1 m2 m3 = ((recN (GL Try.prog comSpec comAnnSpec comCutSpec w0) 40).call 4 [.agg [.int .u64 (.sym a0), .int .u64 (.sym a1), .int .u64 (.sym a2), .int .u64 (.sym a3)], .agg [.int .u64 (.sym m0), .int .u64 (.sym m1), .int .u64 (.sym m2), .int .u64 (.sym m3)]] [] (fun v _ => isTrue v)) := by kernel_rfl
theorem pureModCommon (a0 a1 a2 a3 m0 m1 m2 m3 : Int) (h : U64 a0 ∧ U64 a1 ∧ U64 a2 ∧ U64 a3 ∧ U64 m0 ∧ U64 m1 ∧ U64 m2 ∧ U64 m3) : VCModCommon a0 a1 a2 a3 m0 m1 m2 m3 := by
  obtain ⟨ha0, ha1, ha2, ha3, hm0, hm1, hm2, hm3⟩ := h
  have bm := val4_lt hm0 hm1 hm2 hm3
  have ba := val4_lt ha0 ha1 ha2 ha3
  have L : ∀ x j, U64 (limb x j) := limb_in
  intro v1 h1
  rw [eq4 hm0 hm1 hm2 hm3 U64_0 U64_0 U64_0 U64_0] at h1
  refine br (fun e => ⟨trivial, rfl⟩) (fun e => ?_) v1 h1
  have hM : val4 m0 m1 m2 m3 ≠ 0 := e
  have hM0 : 0 < val4 m0 m1 m2 m3 := by omega
  have lm := limbs4' hm0 hm1 hm2 hm3
  refine ⟨⟨ha0, ha1, ha2, ha3, U64_0, U64_0, U64_0, U64_0, hm0, hm1, hm2, hm3⟩, fun v2 h2 => ?_⟩
  have e2 : v2 = val4 a0 a1 a2 a3 % val4 m0 m1 m2 m3 := by rw [h2, rF_mod]; unfold modF; rw [if_neg hM]
  refine ⟨⟨(0, val4 m0 m1 m2 m3, v2), by rw [e2]; exact com_start hM0 bm.2, ⟨trivial, trivial, rfl, trivial, trivial, rfl, trivial⟩, ⟨rfl, rfl, rfl, rfl, trivial⟩, ⟨rfl, rfl, rfl, rfl, trivial⟩, ⟨lm.1.symm, lm.2.1.symm, lm.2.2.1.symm, lm.2.2.2.symm, trivial⟩, ⟨rfl, rfl, rfl, rfl, trivial⟩, trivial⟩, ?_⟩
  rintro ⟨i, r, s⟩ hp
  have hp : comR (val4 a0 a1 a2 a3) (val4 m0 m1 m2 m3) i r s := hp
  have hp2 := hp
  obtain ⟨_, ⟨i0, i1⟩, ⟨s0, s1, s2⟩, _, _⟩ := hp2
  have hr0 : 0 ≤ r := by omega
  have hrB : r < 115792089237316195423570985008687907853269984665640564039457584007913129639936 := by omega
  refine br (fun c => ?_) fun c => ?_
  · simp only at c
    intro v6 h6
    simp only at h6
    rw [eq4l s0 (by omega) U64_0 U64_0 U64_0 U64_0] at h6
    refine br (fun c6 => ?_) (fun c6 => ?_) v6 h6
    · have c6 : s = 0 := c6
      have hg := com_gcd (c6 ▸ hp)
      refine ⟨⟨ha0, ha1, ha2, ha3, hm0, hm1, hm2, hm3⟩, fun v7 h7 v8 h8 v9 h9 v10 h10 => ?_⟩
      rw [eq4l hr0 hrB U64_1 U64_0 U64_0 U64_0] at h9
      have e9 : v9 = okF (val4 a0 a1 a2 a3) (val4 m0 m1 m2 m3) := by
        rw [h9]; unfold okF
        have q1 : val4 1 0 0 0 = 1 := rfl
        rw [q1]
        by_cases c : r = 1
        · rw [decide_eq_true c, decide_eq_true ⟨hM, hg.1 c⟩]
        · rw [decide_eq_false c, decide_eq_false (fun z => c (hg.2 z.2))]
      refine ⟨fun _ v11 h11 => ⟨fun c11 => ?_, fun _ => ⟨trivial, rfl⟩⟩, fun c => ?_⟩
      rotate_left
      · rw [h10, h8, e9] at c; simp at c
      have gg : Int.gcd (val4 a0 a1 a2 a3) (val4 m0 m1 m2 m3) = 1 := by
        rw [h11, h8] at c11
        unfold okF at c11
        simp at c11
        exact c11.2
      obtain ⟨x0, x1, x2⟩ := invF_ok ba.1 hM0 gg
      rw [← h7] at x0 x1 x2
      have lx : val4 (limb v7 0) (limb v7 1) (limb v7 2) (limb v7 3) = v7 := val4_limb' x0 (by omega)
      refine ⟨⟨ha0, ha1, ha2, ha3, L .., L .., L .., L .., hm0, hm1, hm2, hm3⟩, fun v12 h12 => ⟨⟨U64_1, U64_0, U64_0, U64_0, U64_0, U64_0, U64_0, U64_0, hm0, hm1, hm2, hm3⟩, fun v13 h13 => brT (leq ?_) ⟨⟨L .., L .., L .., L .., hm0, hm1, hm2, hm3⟩, fun v15 h15 => brT ?_ ⟨trivial, rfl⟩⟩⟩⟩
      · rw [h12, h13, lx, rF_mod]; unfold modF; rw [if_neg hM, if_neg hM]; exact mod_of_dvd x2
      · rw [h15, lx]; unfold cmpF; rw [if_pos x1]; rfl
    · have c6 : s ≠ 0 := c6
      have lr : val4 (limb r 0) (limb r 1) (limb r 2) (limb r 3) = r := val4_limb' hr0 hrB
      have ls : val4 (limb s 0) (limb s 1) (limb s 2) (limb s 3) = s := val4_limb' s0 (by omega)
      refine ⟨⟨L .., L .., L .., L .., U64_0, U64_0, U64_0, U64_0, L .., L .., L .., L ..⟩, fun v17 h17 v18 h18 => ?_⟩
      simp only at h17 h18
      rw [lr, ls, rF_mod] at h17
      have e17 : v17 = r % s := by rw [h17]; unfold modF; rw [if_neg c6]
      rw [i64_id (by omega) (by omega)] at h18
      refine ⟨(v18, s, v17), by rw [e17, h18]; exact com_step hp c6 c, ⟨⟨trivial, trivial, rfl, trivial, trivial, rfl, trivial⟩, ⟨rfl, rfl, rfl, rfl, trivial⟩, ⟨rfl, rfl, rfl, rfl, trivial⟩, ⟨rfl, rfl, rfl, rfl, trivial⟩, ⟨rfl, rfl, rfl, rfl, trivial⟩, trivial⟩, by simp only; omega⟩
  · simp only at c
    have c6 : s = 0 := com_end hp c
    have hg := com_gcd (c6 ▸ hp)
    refine ⟨⟨ha0, ha1, ha2, ha3, hm0, hm1, hm2, hm3⟩, fun v7 h7 v8 h8 v9 h9 v10 h10 => ?_⟩
    rw [eq4l hr0 hrB U64_1 U64_0 U64_0 U64_0] at h9
    have e9 : v9 = okF (val4 a0 a1 a2 a3) (val4 m0 m1 m2 m3) := by
      rw [h9]; unfold okF
      have q1 : val4 1 0 0 0 = 1 := rfl
      rw [q1]
      by_cases c : r = 1
      · rw [decide_eq_true c, decide_eq_true ⟨hM, hg.1 c⟩]
      · rw [decide_eq_false c, decide_eq_false (fun z => c (hg.2 z.2))]
    refine ⟨fun _ v11 h11 => ⟨fun c11 => ?_, fun _ => ⟨trivial, rfl⟩⟩, fun c => ?_⟩
    rotate_left
    · rw [h10, h8, e9] at c; simp at c
    have gg : Int.gcd (val4 a0 a1 a2 a3) (val4 m0 m1 m2 m3) = 1 := by
      rw [h11, h8] at c11
      unfold okF at c11
      simp at c11
      exact c11.2
    obtain ⟨x0, x1, x2⟩ := invF_ok ba.1 hM0 gg
    rw [← h7] at x0 x1 x2
    have lx : val4 (limb v7 0) (limb v7 1) (limb v7 2) (limb v7 3) = v7 := val4_limb' x0 (by omega)
    refine ⟨⟨ha0, ha1, ha2, ha3, L .., L .., L .., L .., hm0, hm1, hm2, hm3⟩, fun v12 h12 => ⟨⟨U64_1, U64_0, U64_0, U64_0, U64_0, U64_0, U64_0, U64_0, hm0, hm1, hm2, hm3⟩, fun v13 h13 => brT (leq ?_) ⟨⟨L .., L .., L .., L .., hm0, hm1, hm2, hm3⟩, fun v15 h15 => brT ?_ ⟨trivial, rfl⟩⟩⟩⟩
    · rw [h12, h13, lx, rF_mod]; unfold modF; rw [if_neg hM, if_neg hM]; exact mod_of_dvd x2
    · rw [h15, lx]; unfold cmpF; rw [if_pos x1]; rfl
theorem walkModCommon (a0 : Int) (a1 : Int) (a2 : Int) (a3 : Int) (m0 : Int) (m1 : Int) (m2 : Int) (m3 : Int) (w0 : World) (ha0 : (Lit.int .u64 a0).wf = true) (ha1 : (Lit.int .u64 a1).wf = true) (ha2 : (Lit.int .u64 a2).wf = true) (ha3 : (Lit.int .u64 a3).wf = true) (hm0 : (Lit.int .u64 m0).wf = true) (hm1 : (Lit.int .u64 m1).wf = true) (hm2 : (Lit.int .u64 m2).wf = true) (hm3 : (Lit.int .u64 m3).wf = true) : Calls Try.prog 4 #[.agg #[.int .u64 a0, .int .u64 a1, .int .u64 a2, .int .u64 a3], .agg #[.int .u64 m0, .int .u64 m1, .int .u64 m2, .int .u64 m3]] w0 fun e w' => e = .returned (.bool true) ∧ Below w0.heap.size w0 w' :=
  law_tie (G := GL Try.prog comSpec comAnnSpec comCutSpec w0) (gokL w0 namesOk_ mixed_ com_ok) (n := 40) (f := 4) (args := [.agg [.int .u64 (.sym a0), .int .u64 (.sym a1), .int .u64 (.sym a2), .int .u64 (.sym a3)], .agg [.int .u64 (.sym m0), .int .u64 (.sym m1), .int .u64 (.sym m2), .int .u64 (.sym m3)]]) (by kernel_rfl) (VCModCommon a0 a1 a2 a3 m0 m1 m2 m3) (tieModCommon w0 a0 a1 a2 a3 m0 m1 m2 m3) (pureModCommon a0 a1 a2 a3 m0 m1 m2 m3 ⟨wf_u64 ha0, wf_u64 ha1, wf_u64 ha2, wf_u64 ha3, wf_u64 hm0, wf_u64 hm1, wf_u64 hm2, wf_u64 hm3⟩)

end Go.Proofs.Ytaaobpalpcdlbaa.Bits
