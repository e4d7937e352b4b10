/- Inverses: the document's. -/
import Derived.Test.YtaaobpalpcdlbaaSxN
import Derived.Test.YtaaobpalpcdlbaaSxP
import Derived.Test.YtaaobpalpcdlbaaSxR
import Derived.Test.YtaaobpalpcdlbaaProg
import Derived.Test.YtaaobpalpcdlbaaRef4
import Derived.KernelRfl
namespace Go.Proofs.Ytaaobpalpcdlbaa.Bits
open Go Go.Sx Go.RowKit
set_option linter.unusedVariables false
set_option maxRecDepth 100000
def oddR (a m u v x y : Int) : Prop :=
  0 < m ∧ m % 2 = 1 ∧ (0 ≤ u ∧ u ≤ m) ∧ (0 < v ∧ v ≤ m ∧ v % 2 = 1) ∧ (0 ≤ x ∧ x < m) ∧ (0 ≤ y ∧ y < m) ∧ m ∣ a * x - u ∧ m ∣ a * y - v ∧ Int.gcd u v = Int.gcd a m
def rOddASpec : St → Inv := fun S =>
  { ι := Int × Int × Int × Int
    T := fun p => keepS (hNumSpec (hNumSpec (hNumSpec (hNumSpec S 3 p.1) 4 p.2.1) 5 p.2.2.1) 6 p.2.2.2) [2, 3, 4, 5, 6, 7, 8, 9]
    R := fun p => oddR (val4 (hat S 0 0) (hat S 0 1) (hat S 0 2) (hat S 0 3)) (val4 (hat S 1 0) (hat S 1 1) (hat S 1 2) (hat S 1 3)) p.1 p.2.1 p.2.2.1 p.2.2.2
    μ := fun p => (p.1 + p.2.1).toNat }
def rOddAnnSpec : Anns := [(76, 0, rOddASpec)]
def rOddCutSpec : Anns := []
def ref5Spec : List (FuncId × CSpec) := [(36, rRemSpec), (29, rSubSpec), (25, rCmpSpec), (132, halfSpec), (133, halvedSpec), (134, lessSpec)]
theorem ref5_ok : SpecsOk Try.prog ref5Spec := ⟨rRem_ok, rSub_ok, rCmp_ok, half_ok, halved_ok, less_ok, trivial⟩
theorem odd_start {a m : Int} (h0 : 0 < m) (h1 : m % 2 = 1) : oddR a m (a % m) m (1 % m) 0 := by
  have b0 := Int.emod_nonneg a (show m ≠ 0 by omega)
  have b1 := Int.emod_lt_of_pos a h0
  refine ⟨h0, h1, ⟨b0, by omega⟩, ⟨h0, by omega, h1⟩, ⟨Int.emod_nonneg _ (by omega), Int.emod_lt_of_pos _ h0⟩, ⟨Int.le_refl _, h0⟩, ⟨a / m - a * (1 / m), ?_⟩, ⟨-1, by omega⟩, ?_⟩
  · have e1 := Int.emod_def 1 m
    have e2 := Int.emod_def a m
    rw [e1, e2]; grind
  · rw [Int.gcd_comm, gcd_step]
theorem even_of_mul {m k w : Int} (hm : m % 2 = 1) (h : 2 * w = m * k) : m ∣ w := by
  have e := Int.mul_emod m k 2
  rw [hm, ← h] at e
  have : k % 2 = 0 := by omega
  refine ⟨k / 2, ?_⟩
  have e2 : k = 2 * (k / 2) := by omega
  rw [e2] at h
  have : m * (2 * (k / 2)) = 2 * (m * (k / 2)) := by grind
  omega
theorem gcd_half {u v : Int} (hv : v % 2 = 1) (hu : u % 2 = 0) : Int.gcd (u / 2) v = Int.gcd u v := by
  have e : u = 2 * (u / 2) := by omega
  have c : Nat.Coprime 2 v.natAbs := by
    have : v.natAbs % 2 = 1 := by omega
    unfold Nat.Coprime
    rw [Nat.gcd_rec, this]; decide
  have k := Nat.Coprime.gcd_mul_left_cancel (u / 2).natAbs c
  have e2 : Int.gcd u v = Nat.gcd (2 * (u / 2)).natAbs v.natAbs := by rw [← e]; rfl
  rw [e2, Int.natAbs_mul]
  exact k.symm
theorem odd_half {a m u v x y : Int} (h : oddR a m u v x y) (hu : u % 2 = 0) : oddR a m (u / 2) v (hvF x m) y := by
  obtain ⟨h0, h1, ⟨u0, u1⟩, ⟨v0, v1, v2⟩, ⟨x0, x1⟩, ⟨y0, y1⟩, ⟨k, hk⟩, dy, g⟩ := h
  refine ⟨h0, h1, ⟨by omega, by omega⟩, ⟨v0, v1, v2⟩, ?_, ⟨y0, y1⟩, ?_, dy, by rw [gcd_half v2 hu, g]⟩
  · unfold hvF; split <;> omega
  · unfold hvF
    split
    · have e : 2 * ((x + m) / 2) = x + m := by omega
      refine even_of_mul h1 (k := k + a) ?_
      have : 2 * (a * ((x + m) / 2) - u / 2) = a * (2 * ((x + m) / 2)) - 2 * (u / 2) := by grind
      rw [this, e, show 2 * (u / 2) = u by omega]
      grind
    · have e : 2 * (x / 2) = x := by omega
      refine even_of_mul h1 (k := k) ?_
      have : 2 * (a * (x / 2) - u / 2) = a * (2 * (x / 2)) - 2 * (u / 2) := by grind
      rw [this, e, show 2 * (u / 2) = u by omega]
      exact hk
theorem ls_in {x y m : Int} (hx : 0 ≤ x ∧ x < m) (hy : 0 ≤ y ∧ y < m) : 0 ≤ lsF x y m ∧ lsF x y m < m := by unfold lsF; split <;> omega
theorem ls_dvd {a m u v x y : Int} (hx : m ∣ a * x - u) (hy : m ∣ a * y - v) : m ∣ a * lsF x y m - (u - v) := by
  obtain ⟨k, hk⟩ := hx
  obtain ⟨l, hl⟩ := hy
  unfold lsF
  split
  · exact ⟨k - l + a, by grind⟩
  · exact ⟨k - l, by grind⟩
theorem odd_lt {a m u v x y : Int} (h : oddR a m u v x y) (hu : u % 2 = 1) (hl : u < v) : oddR a m (v - u) u (lsF y x m) x := by
  obtain ⟨h0, h1, ⟨u0, u1⟩, ⟨v0, v1, v2⟩, ⟨x0, x1⟩, ⟨y0, y1⟩, dx, dy, g⟩ := h
  refine ⟨h0, h1, ⟨by omega, by omega⟩, ⟨by omega, u1, hu⟩, ls_in ⟨y0, y1⟩ ⟨x0, x1⟩, ⟨x0, x1⟩, ls_dvd dy dx, dx, ?_⟩
  have := Int.gcd_sub_mul_left_right u v 1
  rw [Int.mul_one] at this
  rw [Int.gcd_comm, this, g]
theorem odd_ge {a m u v x y : Int} (h : oddR a m u v x y) (hl : ¬ u < v) : oddR a m (u - v) v (lsF x y m) y := by
  obtain ⟨h0, h1, ⟨u0, u1⟩, ⟨v0, v1, v2⟩, ⟨x0, x1⟩, ⟨y0, y1⟩, dx, dy, g⟩ := h
  refine ⟨h0, h1, ⟨by omega, by omega⟩, ⟨v0, v1, v2⟩, ls_in ⟨x0, x1⟩ ⟨y0, y1⟩, ⟨y0, y1⟩, ls_dvd dx dy, dy, ?_⟩
  have := Int.gcd_sub_mul_left_right v u 1
  rw [Int.mul_one] at this
  rw [Int.gcd_comm, this, Int.gcd_comm, g]
theorem limb0_mod2 {x : Int} : (limb x 0).tmod 2 = x % 2 := by
  have := (limbE x).1
  rw [Int.tmod_eq_emod_of_nonneg (limb_in x 0).1, this]; omega
def rOddSpec : CSpec
  | [.agg [.int .u64 a0, .int .u64 a1, .int .u64 a2, .int .u64 a3], .agg [.int .u64 m0, .int .u64 m1, .int .u64 m2, .int .u64 m3]], k => ((U64 a0.val) ∧ (U64 a1.val) ∧ (U64 a2.val) ∧ (U64 a3.val) ∧ (U64 m0.val) ∧ (U64 m1.val) ∧ (U64 m2.val) ∧ (U64 m3.val) ∧ (m0.val % 2 = 1)) ∧ (∀ r0 : Int, r0 = (invF (val4 a0.val a1.val a2.val a3.val) (val4 m0.val m1.val m2.val m3.val)) → ∀ r1 : Bool, r1 = (okF (val4 a0.val a1.val a2.val a3.val) (val4 m0.val m1.val m2.val m3.val)) → k (.tup [.agg [.int .u64 (.sym (limb r0 0)), .int .u64 (.sym (limb r0 1)), .int .u64 (.sym (limb r0 2)), .int .u64 (.sym (limb r0 3))], .bool (.sym r1)]))
  | _, _ => False
def VCROdd (a0 : Int) (a1 : Int) (a2 : Int) (a3 : Int) (m0 : Int) (m1 : Int) (m2 : Int) (m3 : Int) : Prop :=
  (U64 a0 ∧ U64 a1 ∧ U64 a2 ∧ U64 a3 ∧ U64 (0 : Int) ∧ U64 (0 : Int) ∧ U64 (0 : Int) ∧ U64 (0 : Int) ∧ U64 m0 ∧ U64 m1 ∧ U64 m2 ∧ U64 m3) ∧ ∀ (v1 : Int), v1 = rF (val4 a0 a1 a2 a3) (0 : Int) (val4 m0 m1 m2 m3) → (U64 (1 : Int) ∧ U64 (0 : Int) ∧ U64 (0 : Int) ∧ U64 (0 : Int) ∧ U64 (0 : Int) ∧ U64 (0 : Int) ∧ U64 (0 : Int) ∧ U64 (0 : Int) ∧ U64 m0 ∧ U64 m1 ∧ U64 m2 ∧ U64 m3) ∧ ∀ (v2 : Int), v2 = rF (1 : Int) (0 : Int) (val4 m0 m1 m2 m3) → (∃ (x3 : Int × Int × Int × Int), oddR (val4 a0 a1 a2 a3) (val4 m0 m1 m2 m3) x3.fst x3.snd.fst x3.snd.snd.fst x3.snd.snd.snd ∧ (True ∧ True ∧ True ∧ false = false ∧ True ∧ True ∧ True ∧ True ∧ True) ∧ (a0 = a0 ∧ a1 = a1 ∧ a2 = a2 ∧ a3 = a3 ∧ True) ∧ (m0 = m0 ∧ m1 = m1 ∧ m2 = m2 ∧ m3 = m3 ∧ True) ∧ ((0 : Int) = (0 : Int) ∧ (0 : Int) = (0 : Int) ∧ (0 : Int) = (0 : Int) ∧ (0 : Int) = (0 : Int) ∧ True) ∧ (limb v1 (0 : Nat) = limb x3.fst (0 : Nat) ∧ limb v1 (1 : Nat) = limb x3.fst (1 : Nat) ∧ limb v1 (2 : Nat) = limb x3.fst (2 : Nat) ∧ limb v1 (3 : Nat) = limb x3.fst (3 : Nat) ∧ True) ∧ (m0 = limb x3.snd.fst (0 : Nat) ∧ m1 = limb x3.snd.fst (1 : Nat) ∧ m2 = limb x3.snd.fst (2 : Nat) ∧ m3 = limb x3.snd.fst (3 : Nat) ∧ True) ∧ (limb v2 (0 : Nat) = limb x3.snd.snd.fst (0 : Nat) ∧ limb v2 (1 : Nat) = limb x3.snd.snd.fst (1 : Nat) ∧ limb v2 (2 : Nat) = limb x3.snd.snd.fst (2 : Nat) ∧ limb v2 (3 : Nat) = limb x3.snd.snd.fst (3 : Nat) ∧ True) ∧ ((0 : Int) = limb x3.snd.snd.snd (0 : Nat) ∧ (0 : Int) = limb x3.snd.snd.snd (1 : Nat) ∧ (0 : Int) = limb x3.snd.snd.snd (2 : Nat) ∧ (0 : Int) = limb x3.snd.snd.snd (3 : Nat) ∧ True) ∧ True) ∧ ∀ (v4 : Int × Int × Int × Int), oddR (val4 a0 a1 a2 a3) (val4 m0 m1 m2 m3) v4.fst v4.snd.fst v4.snd.snd.fst v4.snd.snd.snd → ∀ (v5 : Bool), v5 = !(limb v4.fst (0 : Nat) == (0 : Int) && (limb v4.fst (1 : Nat) == (0 : Int) && (limb v4.fst (2 : Nat) == (0 : Int) && (limb v4.fst (3 : Nat) == (0 : Int) && true)))) → (v5 = true → ∀ (v6 : Int), v6 = (limb v4.fst (0 : Nat)).tmod (2 : Int) → ∀ (v7 : Bool), v7 = (v6 == (0 : Int)) → (v7 = true → (U64 (limb v4.fst (0 : Nat)) ∧ U64 (limb v4.fst (1 : Nat)) ∧ U64 (limb v4.fst (2 : Nat)) ∧ U64 (limb v4.fst (3 : Nat))) ∧ ∀ (v8 : Int), v8 = val4 (limb v4.fst (0 : Nat)) (limb v4.fst (1 : Nat)) (limb v4.fst (2 : Nat)) (limb v4.fst (3 : Nat)) / (2 : Int) → (U64 (limb v4.snd.snd.fst (0 : Nat)) ∧ U64 (limb v4.snd.snd.fst (1 : Nat)) ∧ U64 (limb v4.snd.snd.fst (2 : Nat)) ∧ U64 (limb v4.snd.snd.fst (3 : Nat)) ∧ U64 m0 ∧ U64 m1 ∧ U64 m2 ∧ U64 m3) ∧ ∀ (v9 : Int), v9 = hvF (val4 (limb v4.snd.snd.fst (0 : Nat)) (limb v4.snd.snd.fst (1 : Nat)) (limb v4.snd.snd.fst (2 : Nat)) (limb v4.snd.snd.fst (3 : Nat))) (val4 m0 m1 m2 m3) → ∃ (x10 : Int × Int × Int × Int), oddR (val4 a0 a1 a2 a3) (val4 m0 m1 m2 m3) x10.fst x10.snd.fst x10.snd.snd.fst x10.snd.snd.snd ∧ ((True ∧ True ∧ True ∧ false = false ∧ True ∧ True ∧ True ∧ True ∧ True) ∧ (a0 = a0 ∧ a1 = a1 ∧ a2 = a2 ∧ a3 = a3 ∧ True) ∧ (m0 = m0 ∧ m1 = m1 ∧ m2 = m2 ∧ m3 = m3 ∧ True) ∧ ((0 : Int) = (0 : Int) ∧ (0 : Int) = (0 : Int) ∧ (0 : Int) = (0 : Int) ∧ (0 : Int) = (0 : Int) ∧ True) ∧ (limb v8 (0 : Nat) = limb x10.fst (0 : Nat) ∧ limb v8 (1 : Nat) = limb x10.fst (1 : Nat) ∧ limb v8 (2 : Nat) = limb x10.fst (2 : Nat) ∧ limb v8 (3 : Nat) = limb x10.fst (3 : Nat) ∧ True) ∧ (limb v4.snd.fst (0 : Nat) = limb x10.snd.fst (0 : Nat) ∧ limb v4.snd.fst (1 : Nat) = limb x10.snd.fst (1 : Nat) ∧ limb v4.snd.fst (2 : Nat) = limb x10.snd.fst (2 : Nat) ∧ limb v4.snd.fst (3 : Nat) = limb x10.snd.fst (3 : Nat) ∧ True) ∧ (limb v9 (0 : Nat) = limb x10.snd.snd.fst (0 : Nat) ∧ limb v9 (1 : Nat) = limb x10.snd.snd.fst (1 : Nat) ∧ limb v9 (2 : Nat) = limb x10.snd.snd.fst (2 : Nat) ∧ limb v9 (3 : Nat) = limb x10.snd.snd.fst (3 : Nat) ∧ True) ∧ (limb v4.snd.snd.snd (0 : Nat) = limb x10.snd.snd.snd (0 : Nat) ∧ limb v4.snd.snd.snd (1 : Nat) = limb x10.snd.snd.snd (1 : Nat) ∧ limb v4.snd.snd.snd (2 : Nat) = limb x10.snd.snd.snd (2 : Nat) ∧ limb v4.snd.snd.snd (3 : Nat) = limb x10.snd.snd.snd (3 : Nat) ∧ True) ∧ True) ∧ (x10.fst + x10.snd.fst).toNat < (v4.fst + v4.snd.fst).toNat) ∧ (v7 = false → (U64 (limb v4.fst (0 : Nat)) ∧ U64 (limb v4.fst (1 : Nat)) ∧ U64 (limb v4.fst (2 : Nat)) ∧ U64 (limb v4.fst (3 : Nat)) ∧ U64 (limb v4.snd.fst (0 : Nat)) ∧ U64 (limb v4.snd.fst (1 : Nat)) ∧ U64 (limb v4.snd.fst (2 : Nat)) ∧ U64 (limb v4.snd.fst (3 : Nat))) ∧ ∀ (v11 : Int), v11 = cmpF (val4 (limb v4.fst (0 : Nat)) (limb v4.fst (1 : Nat)) (limb v4.fst (2 : Nat)) (limb v4.fst (3 : Nat))) (val4 (limb v4.snd.fst (0 : Nat)) (limb v4.snd.fst (1 : Nat)) (limb v4.snd.fst (2 : Nat)) (limb v4.snd.fst (3 : Nat))) → ∀ (v12 : Bool), v12 = decide (v11 < (0 : Int)) → (v12 = true → (U64 (limb v4.snd.fst (0 : Nat)) ∧ U64 (limb v4.snd.fst (1 : Nat)) ∧ U64 (limb v4.snd.fst (2 : Nat)) ∧ U64 (limb v4.snd.fst (3 : Nat)) ∧ U64 (limb v4.fst (0 : Nat)) ∧ U64 (limb v4.fst (1 : Nat)) ∧ U64 (limb v4.fst (2 : Nat)) ∧ U64 (limb v4.fst (3 : Nat))) ∧ ∀ (v13 : Int), v13 = val4 (limb v4.snd.fst (0 : Nat)) (limb v4.snd.fst (1 : Nat)) (limb v4.snd.fst (2 : Nat)) (limb v4.snd.fst (3 : Nat)) - val4 (limb v4.fst (0 : Nat)) (limb v4.fst (1 : Nat)) (limb v4.fst (2 : Nat)) (limb v4.fst (3 : Nat)) → ∀ (v14 : Int), (v14 = if val4 (limb v4.snd.fst (0 : Nat)) (limb v4.snd.fst (1 : Nat)) (limb v4.snd.fst (2 : Nat)) (limb v4.snd.fst (3 : Nat)) < val4 (limb v4.fst (0 : Nat)) (limb v4.fst (1 : Nat)) (limb v4.fst (2 : Nat)) (limb v4.fst (3 : Nat)) then (1 : Int) else (0 : Int)) → (U64 (limb v4.snd.snd.snd (0 : Nat)) ∧ U64 (limb v4.snd.snd.snd (1 : Nat)) ∧ U64 (limb v4.snd.snd.snd (2 : Nat)) ∧ U64 (limb v4.snd.snd.snd (3 : Nat)) ∧ U64 (limb v4.snd.snd.fst (0 : Nat)) ∧ U64 (limb v4.snd.snd.fst (1 : Nat)) ∧ U64 (limb v4.snd.snd.fst (2 : Nat)) ∧ U64 (limb v4.snd.snd.fst (3 : Nat)) ∧ U64 m0 ∧ U64 m1 ∧ U64 m2 ∧ U64 m3) ∧ ∀ (v15 : Int), v15 = lsF (val4 (limb v4.snd.snd.snd (0 : Nat)) (limb v4.snd.snd.snd (1 : Nat)) (limb v4.snd.snd.snd (2 : Nat)) (limb v4.snd.snd.snd (3 : Nat))) (val4 (limb v4.snd.snd.fst (0 : Nat)) (limb v4.snd.snd.fst (1 : Nat)) (limb v4.snd.snd.fst (2 : Nat)) (limb v4.snd.snd.fst (3 : Nat))) (val4 m0 m1 m2 m3) → ∃ (x16 : Int × Int × Int × Int), oddR (val4 a0 a1 a2 a3) (val4 m0 m1 m2 m3) x16.fst x16.snd.fst x16.snd.snd.fst x16.snd.snd.snd ∧ ((True ∧ True ∧ True ∧ false = false ∧ True ∧ True ∧ True ∧ True ∧ True) ∧ (a0 = a0 ∧ a1 = a1 ∧ a2 = a2 ∧ a3 = a3 ∧ True) ∧ (m0 = m0 ∧ m1 = m1 ∧ m2 = m2 ∧ m3 = m3 ∧ True) ∧ ((0 : Int) = (0 : Int) ∧ (0 : Int) = (0 : Int) ∧ (0 : Int) = (0 : Int) ∧ (0 : Int) = (0 : Int) ∧ True) ∧ (limb v13 (0 : Nat) = limb x16.fst (0 : Nat) ∧ limb v13 (1 : Nat) = limb x16.fst (1 : Nat) ∧ limb v13 (2 : Nat) = limb x16.fst (2 : Nat) ∧ limb v13 (3 : Nat) = limb x16.fst (3 : Nat) ∧ True) ∧ (limb v4.fst (0 : Nat) = limb x16.snd.fst (0 : Nat) ∧ limb v4.fst (1 : Nat) = limb x16.snd.fst (1 : Nat) ∧ limb v4.fst (2 : Nat) = limb x16.snd.fst (2 : Nat) ∧ limb v4.fst (3 : Nat) = limb x16.snd.fst (3 : Nat) ∧ True) ∧ (limb v15 (0 : Nat) = limb x16.snd.snd.fst (0 : Nat) ∧ limb v15 (1 : Nat) = limb x16.snd.snd.fst (1 : Nat) ∧ limb v15 (2 : Nat) = limb x16.snd.snd.fst (2 : Nat) ∧ limb v15 (3 : Nat) = limb x16.snd.snd.fst (3 : Nat) ∧ True) ∧ (limb v4.snd.snd.fst (0 : Nat) = limb x16.snd.snd.snd (0 : Nat) ∧ limb v4.snd.snd.fst (1 : Nat) = limb x16.snd.snd.snd (1 : Nat) ∧ limb v4.snd.snd.fst (2 : Nat) = limb x16.snd.snd.snd (2 : Nat) ∧ limb v4.snd.snd.fst (3 : Nat) = limb x16.snd.snd.snd (3 : Nat) ∧ True) ∧ True) ∧ (x16.fst + x16.snd.fst).toNat < (v4.fst + v4.snd.fst).toNat) ∧ (v12 = false → (U64 (limb v4.fst (0 : Nat)) ∧ U64 (limb v4.fst (1 : Nat)) ∧ U64 (limb v4.fst (2 : Nat)) ∧ U64 (limb v4.fst (3 : Nat)) ∧ U64 (limb v4.snd.fst (0 : Nat)) ∧ U64 (limb v4.snd.fst (1 : Nat)) ∧ U64 (limb v4.snd.fst (2 : Nat)) ∧ U64 (limb v4.snd.fst (3 : Nat))) ∧ ∀ (v17 : Int), v17 = val4 (limb v4.fst (0 : Nat)) (limb v4.fst (1 : Nat)) (limb v4.fst (2 : Nat)) (limb v4.fst (3 : Nat)) - val4 (limb v4.snd.fst (0 : Nat)) (limb v4.snd.fst (1 : Nat)) (limb v4.snd.fst (2 : Nat)) (limb v4.snd.fst (3 : Nat)) → ∀ (v18 : Int), (v18 = if val4 (limb v4.fst (0 : Nat)) (limb v4.fst (1 : Nat)) (limb v4.fst (2 : Nat)) (limb v4.fst (3 : Nat)) < val4 (limb v4.snd.fst (0 : Nat)) (limb v4.snd.fst (1 : Nat)) (limb v4.snd.fst (2 : Nat)) (limb v4.snd.fst (3 : Nat)) then (1 : Int) else (0 : Int)) → (U64 (limb v4.snd.snd.fst (0 : Nat)) ∧ U64 (limb v4.snd.snd.fst (1 : Nat)) ∧ U64 (limb v4.snd.snd.fst (2 : Nat)) ∧ U64 (limb v4.snd.snd.fst (3 : Nat)) ∧ U64 (limb v4.snd.snd.snd (0 : Nat)) ∧ U64 (limb v4.snd.snd.snd (1 : Nat)) ∧ U64 (limb v4.snd.snd.snd (2 : Nat)) ∧ U64 (limb v4.snd.snd.snd (3 : Nat)) ∧ U64 m0 ∧ U64 m1 ∧ U64 m2 ∧ U64 m3) ∧ ∀ (v19 : Int), v19 = lsF (val4 (limb v4.snd.snd.fst (0 : Nat)) (limb v4.snd.snd.fst (1 : Nat)) (limb v4.snd.snd.fst (2 : Nat)) (limb v4.snd.snd.fst (3 : Nat))) (val4 (limb v4.snd.snd.snd (0 : Nat)) (limb v4.snd.snd.snd (1 : Nat)) (limb v4.snd.snd.snd (2 : Nat)) (limb v4.snd.snd.snd (3 : Nat))) (val4 m0 m1 m2 m3) → ∃ (x20 : Int × Int × Int × Int), oddR (val4 a0 a1 a2 a3) (val4 m0 m1 m2 m3) x20.fst x20.snd.fst x20.snd.snd.fst x20.snd.snd.snd ∧ ((True ∧ True ∧ True ∧ false = false ∧ True ∧ True ∧ True ∧ True ∧ True) ∧ (a0 = a0 ∧ a1 = a1 ∧ a2 = a2 ∧ a3 = a3 ∧ True) ∧ (m0 = m0 ∧ m1 = m1 ∧ m2 = m2 ∧ m3 = m3 ∧ True) ∧ ((0 : Int) = (0 : Int) ∧ (0 : Int) = (0 : Int) ∧ (0 : Int) = (0 : Int) ∧ (0 : Int) = (0 : Int) ∧ True) ∧ (limb v17 (0 : Nat) = limb x20.fst (0 : Nat) ∧ limb v17 (1 : Nat) = limb x20.fst (1 : Nat) ∧ limb v17 (2 : Nat) = limb x20.fst (2 : Nat) ∧ limb v17 (3 : Nat) = limb x20.fst (3 : Nat) ∧ True) ∧ (limb v4.snd.fst (0 : Nat) = limb x20.snd.fst (0 : Nat) ∧ limb v4.snd.fst (1 : Nat) = limb x20.snd.fst (1 : Nat) ∧ limb v4.snd.fst (2 : Nat) = limb x20.snd.fst (2 : Nat) ∧ limb v4.snd.fst (3 : Nat) = limb x20.snd.fst (3 : Nat) ∧ True) ∧ (limb v19 (0 : Nat) = limb x20.snd.snd.fst (0 : Nat) ∧ limb v19 (1 : Nat) = limb x20.snd.snd.fst (1 : Nat) ∧ limb v19 (2 : Nat) = limb x20.snd.snd.fst (2 : Nat) ∧ limb v19 (3 : Nat) = limb x20.snd.snd.fst (3 : Nat) ∧ True) ∧ (limb v4.snd.snd.snd (0 : Nat) = limb x20.snd.snd.snd (0 : Nat) ∧ limb v4.snd.snd.snd (1 : Nat) = limb x20.snd.snd.snd (1 : Nat) ∧ limb v4.snd.snd.snd (2 : Nat) = limb x20.snd.snd.snd (2 : Nat) ∧ limb v4.snd.snd.snd (3 : Nat) = limb x20.snd.snd.snd (3 : Nat) ∧ True) ∧ True) ∧ (x20.fst + x20.snd.fst).toNat < (v4.fst + v4.snd.fst).toNat))) ∧ (v5 = false → ∀ (v21 : Bool), v21 = !(limb v4.snd.fst (0 : Nat) == (1 : Int) && (limb v4.snd.fst (1 : Nat) == (0 : Int) && (limb v4.snd.fst (2 : Nat) == (0 : Int) && (limb v4.snd.fst (3 : Nat) == (0 : Int) && true)))) → (v21 = true → ((IntKind.u64 = IntKind.u64 ∧ (0 : Int) = limb (invF (val4 a0 a1 a2 a3) (val4 m0 m1 m2 m3)) (0 : Nat)) ∧ (IntKind.u64 = IntKind.u64 ∧ (0 : Int) = limb (invF (val4 a0 a1 a2 a3) (val4 m0 m1 m2 m3)) (1 : Nat)) ∧ (IntKind.u64 = IntKind.u64 ∧ (0 : Int) = limb (invF (val4 a0 a1 a2 a3) (val4 m0 m1 m2 m3)) (2 : Nat)) ∧ (IntKind.u64 = IntKind.u64 ∧ (0 : Int) = limb (invF (val4 a0 a1 a2 a3) (val4 m0 m1 m2 m3)) (3 : Nat)) ∧ True) ∧ false = okF (val4 a0 a1 a2 a3) (val4 m0 m1 m2 m3) ∧ True) ∧ (v21 = false → (U64 (limb v4.snd.snd.snd (0 : Nat)) ∧ U64 (limb v4.snd.snd.snd (1 : Nat)) ∧ U64 (limb v4.snd.snd.snd (2 : Nat)) ∧ U64 (limb v4.snd.snd.snd (3 : Nat)) ∧ U64 (0 : Int) ∧ U64 (0 : Int) ∧ U64 (0 : Int) ∧ U64 (0 : Int) ∧ U64 m0 ∧ U64 m1 ∧ U64 m2 ∧ U64 m3) ∧ ∀ (v22 : Int), v22 = rF (val4 (limb v4.snd.snd.snd (0 : Nat)) (limb v4.snd.snd.snd (1 : Nat)) (limb v4.snd.snd.snd (2 : Nat)) (limb v4.snd.snd.snd (3 : Nat))) (0 : Int) (val4 m0 m1 m2 m3) → ((IntKind.u64 = IntKind.u64 ∧ limb v22 (0 : Nat) = limb (invF (val4 a0 a1 a2 a3) (val4 m0 m1 m2 m3)) (0 : Nat)) ∧ (IntKind.u64 = IntKind.u64 ∧ limb v22 (1 : Nat) = limb (invF (val4 a0 a1 a2 a3) (val4 m0 m1 m2 m3)) (1 : Nat)) ∧ (IntKind.u64 = IntKind.u64 ∧ limb v22 (2 : Nat) = limb (invF (val4 a0 a1 a2 a3) (val4 m0 m1 m2 m3)) (2 : Nat)) ∧ (IntKind.u64 = IntKind.u64 ∧ limb v22 (3 : Nat) = limb (invF (val4 a0 a1 a2 a3) (val4 m0 m1 m2 m3)) (3 : Nat)) ∧ True) ∧ true = okF (val4 a0 a1 a2 a3) (val4 m0 m1 m2 m3) ∧ True))
theorem tieROdd (w0 : World) (a0 : Int) (a1 : Int) (a2 : Int) (a3 : Int) (m0 : Int) (m1 : Int) (m2 : Int) (m3 : Int) : VCROdd a0 a1 a2 a3 m0 m1 m2 m3 = ((recN (GL Try.prog ref5Spec rOddAnnSpec rOddCutSpec w0) 40).call 76 [.agg [.int .u64 (.sym a0), .int .u64 (.sym a1), .int .u64 (.sym a2), .int .u64 (.sym a3)], .agg [.int .u64 (.sym m0), .int .u64 (.sym m1), .int .u64 (.sym m2), .int .u64 (.sym m3)]] [] (fun r__ _ => eqV r__ (.tup [.agg [.int .u64 (.sym (limb (invF (val4 a0 a1 a2 a3) (val4 m0 m1 m2 m3)) 0)), .int .u64 (.sym (limb (invF (val4 a0 a1 a2 a3) (val4 m0 m1 m2 m3)) 1)), .int .u64 (.sym (limb (invF (val4 a0 a1 a2 a3) (val4 m0 m1 m2 m3)) 2)), .int .u64 (.sym (limb (invF (val4 a0 a1 a2 a3) (val4 m0 m1 m2 m3)) 3))], .bool (.sym (okF (val4 a0 a1 a2 a3) (val4 m0 m1 m2 m3)))]))) := by kernel_rfl
theorem pureROdd (a0 a1 a2 a3 m0 m1 m2 m3 : Int) (h : U64 a0 ∧ U64 a1 ∧ U64 a2 ∧ U64 a3 ∧ U64 m0 ∧ U64 m1 ∧ U64 m2 ∧ U64 m3 ∧ m0 % 2 = 1) : VCROdd a0 a1 a2 a3 m0 m1 m2 m3 := by
  obtain ⟨ha0, ha1, ha2, ha3, hm0, hm1, hm2, hm3, hpre⟩ := h
  have ba := val4_lt ha0 ha1 ha2 ha3
  have bm := val4_lt hm0 hm1 hm2 hm3
  have lm := limbs4' hm0 hm1 hm2 hm3
  have L : ∀ x j, U64 (limb x j) := limb_in
  have t4 : ∀ {x y z w : Int}, (x = x ∧ y = y ∧ z = z ∧ w = w ∧ True) := fun {x y z w} => ⟨rfl, rfl, rfl, rfl, trivial⟩
  have hodd : val4 m0 m1 m2 m3 % 2 = 1 := by unfold val4; omega
  have mp : 0 < val4 m0 m1 m2 m3 := by omega
  refine ⟨⟨ha0, ha1, ha2, ha3, U64_0, U64_0, U64_0, U64_0, hm0, hm1, hm2, hm3⟩, fun v1 h1 => ⟨⟨U64_1, U64_0, U64_0, U64_0, U64_0, U64_0, U64_0, U64_0, hm0, hm1, hm2, hm3⟩, fun v2 h2 => ⟨⟨(v1, val4 m0 m1 m2 m3, v2, 0), ?_, ⟨trivial, trivial, trivial, rfl, trivial, trivial, trivial, trivial, trivial⟩, t4, t4, t4, t4, ⟨lm.1.symm, lm.2.1.symm, lm.2.2.1.symm, lm.2.2.2.symm, trivial⟩, t4, ⟨(limb0 0).symm, (limb0 1).symm, (limb0 2).symm, (limb0 3).symm, trivial⟩, trivial⟩, ?_⟩⟩⟩
  · rw [h1, h2, rF_mod, rF_mod]
    unfold modF
    rw [if_neg (by omega), if_neg (by omega)]
    exact odd_start mp hodd
  rintro ⟨u, v, x, y⟩ hp v5 h5
  dsimp only at hp h5 ⊢
  have hp' := hp
  obtain ⟨_, _, ⟨u0, u1⟩, ⟨v0, v1, v2⟩, ⟨x0, x1⟩, ⟨y0, y1⟩, dx, dy, g⟩ := hp'
  have lu : val4 (limb u 0) (limb u 1) (limb u 2) (limb u 3) = u := val4_limb' u0 (by omega)
  have lv : val4 (limb v 0) (limb v 1) (limb v 2) (limb v 3) = v := val4_limb' (by omega) (by omega)
  have lx : val4 (limb x 0) (limb x 1) (limb x 2) (limb x 3) = x := val4_limb' x0 (by omega)
  have ly : val4 (limb y 0) (limb y 1) (limb y 2) (limb y 3) = y := val4_limb' y0 (by omega)
  rw [eq4l u0 (by omega) U64_0 U64_0 U64_0 U64_0] at h5
  refine brnd (fun c5 => ?_) (fun c5 => ?_) v5 h5
  · have c5 : u ≠ 0 := c5
    rw [limb0_mod2, lu, lv, lx, ly]
    rintro v6 rfl
    refine brE (fun c7 => ⟨⟨L .., L .., L .., L ..⟩, fun v8 h8 => ⟨⟨L .., L .., L .., L .., hm0, hm1, hm2, hm3⟩, fun v9 h9 => ⟨(v8, v, v9, y), ?_, ⟨⟨trivial, trivial, trivial, rfl, trivial, trivial, trivial, trivial, trivial⟩, t4, t4, t4, t4, t4, t4, t4, trivial⟩, by dsimp only; omega⟩⟩⟩) fun c7 => ⟨⟨L .., L .., L .., L .., L .., L .., L .., L ..⟩, fun v11 h11 => ?_⟩
    · rw [h8, h9]; exact odd_half hp c7
    · refine br (fun c12 => ⟨⟨L .., L .., L .., L .., L .., L .., L .., L ..⟩, fun v13 h13 v14 h14 => ⟨⟨L .., L .., L .., L .., L .., L .., L .., L .., hm0, hm1, hm2, hm3⟩, fun v15 h15 => ⟨(v13, u, v15, x), ?_, ⟨⟨trivial, trivial, trivial, rfl, trivial, trivial, trivial, trivial, trivial⟩, t4, t4, t4, t4, t4, t4, t4, trivial⟩, by dsimp only; omega⟩⟩⟩) fun c12 => ⟨⟨L .., L .., L .., L .., L .., L .., L .., L ..⟩, fun v17 h17 v18 h18 => ⟨⟨L .., L .., L .., L .., L .., L .., L .., L .., hm0, hm1, hm2, hm3⟩, fun v19 h19 => ⟨(v17, v, v19, y), ?_, ⟨⟨trivial, trivial, trivial, rfl, trivial, trivial, trivial, trivial, trivial⟩, t4, t4, t4, t4, t4, t4, t4, trivial⟩, by dsimp only; omega⟩⟩⟩
      · have : u < v := by
          rw [h11] at c12; unfold cmpF at c12
          split at c12
          · assumption
          · split at c12 <;> omega
        rw [h13, h15]; exact odd_lt hp (by omega) this
      · have : ¬ u < v := by
          rw [h11] at c12; unfold cmpF at c12
          intro z; rw [if_pos z] at c12; omega
        rw [h17, h19]; exact odd_ge hp this
  · have c5 : u = 0 := c5
    subst c5
    rw [Int.gcd_zero_left] at g
    intro v21 h21
    rw [eq4l (by omega) (by omega) U64_1 U64_0 U64_0 U64_0] at h21
    refine brnd (fun c => ?_) (fun c => ⟨⟨L .., L .., L .., L .., U64_0, U64_0, U64_0, U64_0, hm0, hm1, hm2, hm3⟩, fun v22 h22 => ?_⟩) v21 h21
    · have c : v ≠ 1 := c
      have e8 : Int.gcd (val4 a0 a1 a2 a3) (val4 m0 m1 m2 m3) ≠ 1 := by omega
      rw [invF_none (Or.inr e8)]
      exact ⟨limb00, by unfold okF; simp [e8], trivial⟩
    · have c : v = 1 := c
      subst c
      have e1 : Int.gcd (val4 a0 a1 a2 a3) (val4 m0 m1 m2 m3) = 1 := by omega
      rw [invF_eq y0 y1 dy]
      refine ⟨limb_eq ?_, by unfold okF; simp [e1]; omega, trivial⟩
      rw [h22, ly, rF_mod]; unfold modF
      rw [if_neg (by omega), Int.emod_eq_of_lt y0 y1]
theorem rOdd_ok : SpecOk Try.prog 76 rOddSpec := by
  intro args k h
  unfold rOddSpec at h
  split at h
  · rename_i a0 a1 a2 a3 m0 m1 m2 m3
    obtain ⟨hr, h⟩ := h
    exact ⟨_, h _ rfl _ rfl, PureOk.of_tie (GL Try.prog ref5Spec rOddAnnSpec rOddCutSpec) (fun w__ => gokL w__ namesOk_ mixed_ ref5_ok) (fun _ => rfl) (fun _ => rfl) (args' := [.agg [.int .u64 (.sym a0.val), .int .u64 (.sym a1.val), .int .u64 (.sym a2.val), .int .u64 (.sym a3.val)], .agg [.int .u64 (.sym m0.val), .int .u64 (.sym m1.val), .int .u64 (.sym m2.val), .int .u64 (.sym m3.val)]]) ⟨⟨⟨rfl, rfl⟩, ⟨rfl, rfl⟩, ⟨rfl, rfl⟩, ⟨rfl, rfl⟩, trivial⟩, ⟨⟨rfl, rfl⟩, ⟨rfl, rfl⟩, ⟨rfl, rfl⟩, ⟨rfl, rfl⟩, trivial⟩, trivial⟩ 40 (fun w__ => VCROdd a0.val a1.val a2.val a3.val m0.val m1.val m2.val m3.val) (fun w__ => tieROdd w__ a0.val a1.val a2.val a3.val m0.val m1.val m2.val m3.val) (fun w__ => pureROdd a0.val a1.val a2.val a3.val m0.val m1.val m2.val m3.val hr)⟩
  · exact h.elim

end Go.Proofs.Ytaaobpalpcdlbaa.Bits
