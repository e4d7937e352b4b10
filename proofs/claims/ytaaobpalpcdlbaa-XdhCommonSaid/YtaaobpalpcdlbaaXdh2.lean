import Derived.Test.YtaaobpalpcdlbaaSxN
import Derived.Test.YtaaobpalpcdlbaaSxP
import Derived.Test.YtaaobpalpcdlbaaSxR
import Derived.Test.YtaaobpalpcdlbaaProg
import Derived.Test.YtaaobpalpcdlbaaXdh1
import Derived.KernelRfl
namespace Go.Proofs.Ytaaobpalpcdlbaa.Bits
open Go Go.Sx Go.RowKit Go.EC
set_option linter.unusedVariables false
set_option maxRecDepth 100000
def lx0 (k u i : Int) : Int := (ldI k u (254 - i).toNat).1.1
def lx1 (k u i : Int) : Int := (ldI k u (254 - i).toNat).1.2
def ly0 (k u i : Int) : Int := (ldI k u (254 - i).toNat).2.1
def ly1 (k u i : Int) : Int := (ldI k u (254 - i).toNat).2.2
def frSpec (S : St) (b : Nat) (x y : Int) : St := setWSpec (setWSpec S b 0 (limb x) 4) b 4 (limb y) 4
def ladASpec : St → Inv := fun S =>
  { ι := Int
    T := fun i => stS (keepS (hKeepSpec (frSpec (frSpec S 3 (lx0 (val4 (hat S 0 0) (hat S 0 1) (hat S 0 2) (hat S 0 3)) (val4 (hat S 1 0) (hat S 1 1) (hat S 1 2) (hat S 1 3)) i) (lx1 (val4 (hat S 0 0) (hat S 0 1) (hat S 0 2) (hat S 0 3)) (val4 (hat S 1 0) (hat S 1 1) (hat S 1 2) (hat S 1 3)) i)) 4 (ly0 (val4 (hat S 0 0) (hat S 0 1) (hat S 0 2) (hat S 0 3)) (val4 (hat S 1 0) (hat S 1 1) (hat S 1 2) (hat S 1 3)) i) (ly1 (val4 (hat S 0 0) (hat S 0 1) (hat S 0 2) (hat S 0 3)) (val4 (hat S 1 0) (hat S 1 1) (hat S 1 2) (hat S 1 3)) i)) 7 [2, 3, 4, 5, 6]) [0, 1]) [(3, .int .i64 (.sym i))]
    R := fun i => -1 ≤ i ∧ i ≤ 254
    μ := fun i => (i + 1).toNat }
def ladAnnSpec : Anns := [(162, 0, ladASpec)]
def ladCutSpec : Anns := []
def rfHintX : List Nat := [90]
def xd2Spec : List (FuncId × CSpec) := [(18, mInvSpec), (136, bitSpec), (99, timesSpec), (100, plusSpec), (163, xLessSpec), (101, squareSpec)]
theorem xd2_ok : SpecsOk Try.prog xd2Spec := ⟨mInv_ok, bit_ok, times_ok, plus_ok, xLess_ok, square_ok, trivial⟩
--@SQUEEZE
theorem ul (x : Int) (j : Nat) : U64 (limb x j) = True := eq_true (limb_in x j)
theorem lt5 (a b : Int) : val4 (limb (t5 a b) 0) (limb (t5 a b) 1) (limb (t5 a b) 2) (limb (t5 a b) 3) = t5 a b := lv5 (in5 _)
theorem la5 (a b : Int) : val4 (limb (a5 a b) 0) (limb (a5 a b) 1) (limb (a5 a b) 2) (limb (a5 a b) 3) = a5 a b := lv5 (in5 _)
theorem ls5 (a b : Int) : val4 (limb (s5 a b) 0) (limb (s5 a b) 1) (limb (s5 a b) 2) (limb (s5 a b) 3) = s5 a b := lv5 (in5 _)
theorem in5B {x : Int} (h : inP5 x) : 0 ≤ x ∧ x < 115792089237316195423570985008687907853269984665640564039457584007913129639936 := by
  have h2 : x < 57896044618658097711785492504343953926634992332820282019728792003956564819949 := h.2
  exact ⟨h.1, by omega⟩
theorem ld_in {k u : Int} (hu : 0 ≤ u ∧ u < 115792089237316195423570985008687907853269984665640564039457584007913129639936) (n : Nat) : (inP5 (ldI k u n).1.1 ∧ inP5 (ldI k u n).1.2) ∧ (0 ≤ (ldI k u n).2.1 ∧ (ldI k u n).2.1 < 115792089237316195423570985008687907853269984665640564039457584007913129639936) ∧ inP5 (ldI k u n).2.2 := by
  cases n with
  | zero => exact ⟨⟨(by decide : inP5 1), (by decide : inP5 0)⟩, hu, (by decide : inP5 1)⟩
  | succ n =>
    simp only [ldI]
    split
    · exact ⟨⟨in5 _, in5 _⟩, in5B (in5 _), in5 _⟩
    · exact ⟨⟨in5 _, in5 _⟩, in5B (in5 _), in5 _⟩
theorem llx0 {k u : Int} (hu : 0 ≤ u ∧ u < 115792089237316195423570985008687907853269984665640564039457584007913129639936) (i : Int) : val4 (limb (lx0 k u i) 0) (limb (lx0 k u i) 1) (limb (lx0 k u i) 2) (limb (lx0 k u i) 3) = lx0 k u i := lv5 (ld_in hu _).1.1
theorem llx1 {k u : Int} (hu : 0 ≤ u ∧ u < 115792089237316195423570985008687907853269984665640564039457584007913129639936) (i : Int) : val4 (limb (lx1 k u i) 0) (limb (lx1 k u i) 1) (limb (lx1 k u i) 2) (limb (lx1 k u i) 3) = lx1 k u i := lv5 (ld_in hu _).1.2
theorem lly0 {k u : Int} (hu : 0 ≤ u ∧ u < 115792089237316195423570985008687907853269984665640564039457584007913129639936) (i : Int) : val4 (limb (ly0 k u i) 0) (limb (ly0 k u i) 1) (limb (ly0 k u i) 2) (limb (ly0 k u i) 3) = ly0 k u i := val4_limb' (ld_in hu _).2.1.1 (ld_in hu _).2.1.2
theorem lly1 {k u : Int} (hu : 0 ≤ u ∧ u < 115792089237316195423570985008687907853269984665640564039457584007913129639936) (i : Int) : val4 (limb (ly1 k u i) 0) (limb (ly1 k u i) 1) (limb (ly1 k u i) 2) (limb (ly1 k u i) 3) = ly1 k u i := lv5 (ld_in hu _).2.2
theorem bN_F {k i : Int} (hk : 0 ≤ k) (hi : 0 ≤ i ∧ i ≤ 254) : (bN k i.toNat : Int) = bitF k i := by
  unfold bN bitF
  rw [if_neg (by omega)]
  obtain ⟨n, rfl⟩ := Int.eq_ofNat_of_zero_le hk
  rw [Int.toNat_natCast]
  simp
theorem ld_n {k u i : Int} (hi : 0 ≤ i ∧ i ≤ 254) : ldI k u (254 - (i - 1)).toNat = if bN k i.toNat = 1 then ((stI u (ly0 k u i, ly1 k u i) (lx0 k u i, lx1 k u i)).2, (stI u (ly0 k u i, ly1 k u i) (lx0 k u i, lx1 k u i)).1) else stI u (lx0 k u i, lx1 k u i) (ly0 k u i, ly1 k u i) := by
  have e1 : (254 - (i - 1)).toNat = (254 - i).toNat + 1 := by omega
  have e2 : 254 - (254 - i).toNat = i.toNat := by omega
  rw [e1]
  simp only [ldI, e2]
  rfl
theorem ld_one {k u i : Int} (hk : 0 ≤ k) (hi : 0 ≤ i ∧ i ≤ 254) (hb : bitF k i = 1) : ldI k u (254 - (i - 1)).toNat = ((stI u (ly0 k u i, ly1 k u i) (lx0 k u i, lx1 k u i)).2, (stI u (ly0 k u i, ly1 k u i) (lx0 k u i, lx1 k u i)).1) := by
  rw [ld_n hi, if_pos]
  have := bN_F hk hi
  omega
theorem ld_zero {k u i : Int} (hk : 0 ≤ k) (hi : 0 ≤ i ∧ i ≤ 254) (hb : bitF k i ≠ 1) : ldI k u (254 - (i - 1)).toNat = stI u (lx0 k u i, lx1 k u i) (ly0 k u i, ly1 k u i) := by
  rw [ld_n hi, if_neg]
  have := bN_F hk hi
  omega
theorem ld_start (k u : Int) : lx0 k u 254 = 1 ∧ lx1 k u 254 = 0 ∧ ly0 k u 254 = u ∧ ly1 k u 254 = 1 := ⟨rfl, rfl, rfl, rfl⟩
theorem l1_0 : (1 : Int) = limb 1 0 ∧ (0 : Int) = limb 1 1 ∧ (0 : Int) = limb 1 2 ∧ (0 : Int) = limb 1 3 := by decide +kernel
theorem l0_0 : (0 : Int) = limb 0 0 ∧ (0 : Int) = limb 0 1 ∧ (0 : Int) = limb 0 2 ∧ (0 : Int) = limb 0 3 := by decide +kernel
theorem invF_lt {a m : Int} (hm : 0 < m) : 0 ≤ invF a m ∧ invF a m < m := by
  unfold invF
  split
  · rename_i h
    exact ⟨(Classical.choose_spec h).1, (Classical.choose_spec h).2.1⟩
  · omega
theorem pow_invX {a P : Int} {p : Nat} (hp : Go.EC.Pr p) (hP : P = (p : Int)) (h0 : 0 ≤ a) (h : a % P ≠ 0) : P ∣ a * (a ^ (p - 2) % P) - 1 := by
  have p1 := hp.1
  obtain ⟨n, rfl⟩ := Int.eq_ofNat_of_zero_le h0
  have nd : ¬ p ∣ n := by
    intro d
    exact h (Int.emod_eq_zero_of_dvd (by rw [hP]; exact Int.natCast_dvd_natCast.2 d))
  have f := Go.EC.fermat1 hp nd
  have e : (n : Int) ^ (p - 1) % P = 1 := by
    rw [hP]
    have : ((n ^ (p - 1) % p : Nat) : Int) = 1 := by rw [f]; rfl
    rw [← this]; simp
  have e2 : (n : Int) * (n : Int) ^ (p - 2) = (n : Int) ^ (p - 1) := by
    rw [Int.mul_comm, ← Int.pow_succ]; congr 1; omega
  have d1 := Int.emod_def ((n : Int) ^ (p - 2)) P
  have d2 := Int.emod_def ((n : Int) ^ (p - 1)) P
  rw [e] at d2
  rw [d1]
  generalize (n : Int) ^ (p - 2) / P = k at *
  generalize (n : Int) ^ (p - 1) / P = l at *
  generalize (n : Int) ^ (p - 1) = w at *
  refine ⟨l - n * k, ?_⟩
  have : (n : Int) * ((n : Int) ^ (p - 2) - P * k) = (n : Int) * (n : Int) ^ (p - 2) - P * (n * k) := by grind
  rw [this, e2, Int.mul_sub]; omega
theorem inv_pow5 {x : Int} (h : inP5 x) : invF x 57896044618658097711785492504343953926634992332820282019728792003956564819949 = x ^ (p25 - 2) % P5 := by
  have h2 : x < 57896044618658097711785492504343953926634992332820282019728792003956564819949 := h.2
  by_cases z : x = 0
  · subst z
    rw [invF_none (Or.inr (by decide +kernel)), Int.zero_pow (by decide)]; rfl
  · have d := pow_invX (P := P5) pr25 rfl h.1 (by rw [Int.emod_eq_of_lt h.1 h.2]; exact z)
    exact invF_eq (in5 _).1 (in5 _).2 d
def ladderSpec : CSpec
  | [.agg [.int .u64 k0, .int .u64 k1, .int .u64 k2, .int .u64 k3], .agg [.int .u64 u0, .int .u64 u1, .int .u64 u2, .int .u64 u3]], k => ((U64 k0.val) ∧ (U64 k1.val) ∧ (U64 k2.val) ∧ (U64 k3.val) ∧ (U64 u0.val) ∧ (U64 u1.val) ∧ (U64 u2.val) ∧ (U64 u3.val)) ∧ (∀ r0 : Int, r0 = (lxI (val4 k0.val k1.val k2.val k3.val) (val4 u0.val u1.val u2.val u3.val)) → k (.agg [.int .u64 (.sym (limb r0 0)), .int .u64 (.sym (limb r0 1)), .int .u64 (.sym (limb r0 2)), .int .u64 (.sym (limb r0 3))]))
  | _, _ => False
abbrev GLadder1 (y0 y1 y2 y3 y4 y5 y6 y7 y8 y9 y10 y11 y12 y13 : Int) : Prop := (True ∧ True ∧ y0 = y1 ∧ True) ∧ (y2 = y2 ∧ y3 = y3 ∧ y4 = y4 ∧ y5 = y5 ∧ True) ∧ (y6 = y6 ∧ y7 = y7 ∧ y8 = y8 ∧ y9 = y9 ∧ True) ∧ ((0 : Int) = (0 : Int) ∧ (0 : Int) = (0 : Int) ∧ (0 : Int) = (0 : Int) ∧ (0 : Int) = (0 : Int) ∧ True) ∧ (limb y10 0 = limb (lx0 (val4 y2 y3 y4 y5) (val4 y6 y7 y8 y9) y1) 0 ∧ limb y10 1 = limb (lx0 (val4 y2 y3 y4 y5) (val4 y6 y7 y8 y9) y1) 1 ∧ limb y10 2 = limb (lx0 (val4 y2 y3 y4 y5) (val4 y6 y7 y8 y9) y1) 2 ∧ limb y10 3 = limb (lx0 (val4 y2 y3 y4 y5) (val4 y6 y7 y8 y9) y1) 3 ∧ limb y11 0 = limb (lx1 (val4 y2 y3 y4 y5) (val4 y6 y7 y8 y9) y1) 0 ∧ limb y11 1 = limb (lx1 (val4 y2 y3 y4 y5) (val4 y6 y7 y8 y9) y1) 1 ∧ limb y11 2 = limb (lx1 (val4 y2 y3 y4 y5) (val4 y6 y7 y8 y9) y1) 2 ∧ limb y11 3 = limb (lx1 (val4 y2 y3 y4 y5) (val4 y6 y7 y8 y9) y1) 3 ∧ True) ∧ (limb y12 0 = limb (ly0 (val4 y2 y3 y4 y5) (val4 y6 y7 y8 y9) y1) 0 ∧ limb y12 1 = limb (ly0 (val4 y2 y3 y4 y5) (val4 y6 y7 y8 y9) y1) 1 ∧ limb y12 2 = limb (ly0 (val4 y2 y3 y4 y5) (val4 y6 y7 y8 y9) y1) 2 ∧ limb y12 3 = limb (ly0 (val4 y2 y3 y4 y5) (val4 y6 y7 y8 y9) y1) 3 ∧ limb y13 0 = limb (ly1 (val4 y2 y3 y4 y5) (val4 y6 y7 y8 y9) y1) 0 ∧ limb y13 1 = limb (ly1 (val4 y2 y3 y4 y5) (val4 y6 y7 y8 y9) y1) 1 ∧ limb y13 2 = limb (ly1 (val4 y2 y3 y4 y5) (val4 y6 y7 y8 y9) y1) 2 ∧ limb y13 3 = limb (ly1 (val4 y2 y3 y4 y5) (val4 y6 y7 y8 y9) y1) 3 ∧ True) ∧ (y2 = y2 ∧ y3 = y3 ∧ y4 = y4 ∧ y5 = y5 ∧ True) ∧ True ∧ ((True ∧ True ∧ True ∧ True ∧ True ∧ True) ∧ sameCode (rfAt Try.prog 90 0).fst (rfAt Try.prog 90 0).fst ∧ sameCode (rfAt Try.prog 90 0).snd (rfAt Try.prog 90 0).snd) ∧ True
abbrev GLadder2 (y0 y1 y2 y3 y4 y5 y6 y7 y8 : Int) : Prop := U64 (limb (ly0 (val4 y0 y1 y2 y3) (val4 y4 y5 y6 y7) y8) 0) ∧ U64 (limb (ly0 (val4 y0 y1 y2 y3) (val4 y4 y5 y6 y7) y8) 1) ∧ U64 (limb (ly0 (val4 y0 y1 y2 y3) (val4 y4 y5 y6 y7) y8) 2) ∧ U64 (limb (ly0 (val4 y0 y1 y2 y3) (val4 y4 y5 y6 y7) y8) 3) ∧ U64 (limb (ly1 (val4 y0 y1 y2 y3) (val4 y4 y5 y6 y7) y8) 0) ∧ U64 (limb (ly1 (val4 y0 y1 y2 y3) (val4 y4 y5 y6 y7) y8) 1) ∧ U64 (limb (ly1 (val4 y0 y1 y2 y3) (val4 y4 y5 y6 y7) y8) 2) ∧ U64 (limb (ly1 (val4 y0 y1 y2 y3) (val4 y4 y5 y6 y7) y8) 3)
abbrev GLadder3 (y0 y1 y2 y3 y4 y5 y6 y7 y8 : Int) : Prop := U64 (limb (lx0 (val4 y0 y1 y2 y3) (val4 y4 y5 y6 y7) y8) 0) ∧ U64 (limb (lx0 (val4 y0 y1 y2 y3) (val4 y4 y5 y6 y7) y8) 1) ∧ U64 (limb (lx0 (val4 y0 y1 y2 y3) (val4 y4 y5 y6 y7) y8) 2) ∧ U64 (limb (lx0 (val4 y0 y1 y2 y3) (val4 y4 y5 y6 y7) y8) 3) ∧ U64 (limb (lx1 (val4 y0 y1 y2 y3) (val4 y4 y5 y6 y7) y8) 0) ∧ U64 (limb (lx1 (val4 y0 y1 y2 y3) (val4 y4 y5 y6 y7) y8) 1) ∧ U64 (limb (lx1 (val4 y0 y1 y2 y3) (val4 y4 y5 y6 y7) y8) 2) ∧ U64 (limb (lx1 (val4 y0 y1 y2 y3) (val4 y4 y5 y6 y7) y8) 3)
abbrev GLadder4 (y0 y1 : Int) : Prop := U64 (limb y0 0) ∧ U64 (limb y0 1) ∧ U64 (limb y0 2) ∧ U64 (limb y0 3) ∧ U64 (limb y1 0) ∧ U64 (limb y1 1) ∧ U64 (limb y1 2) ∧ U64 (limb y1 3)
abbrev GLadder5 (y0 : Int) : Prop := U64 (limb y0 0) ∧ U64 (limb y0 1) ∧ U64 (limb y0 2) ∧ U64 (limb y0 3)
def VCLadder (k0 : Int) (k1 : Int) (k2 : Int) (k3 : Int) (u0 : Int) (u1 : Int) (u2 : Int) (u3 : Int) : Prop :=
  (∃ (x1 : Int), ((-1 : Int) ≤ x1 /\ x1 ≤ (254 : Int)) /\ (True /\ True /\ (254 : Int) = x1 /\ True) /\ (k0 = k0 /\ k1 = k1 /\ k2 = k2 /\ k3 = k3 /\ True) /\ (u0 = u0 /\ u1 = u1 /\ u2 = u2 /\ u3 = u3 /\ True) /\ ((0 : Int) = (0 : Int) /\ (0 : Int) = (0 : Int) /\ (0 : Int) = (0 : Int) /\ (0 : Int) = (0 : Int) /\ True) /\ ((1 : Int) = limb (lx0 (val4 k0 k1 k2 k3) (val4 u0 u1 u2 u3) x1) 0 /\ (0 : Int) = limb (lx0 (val4 k0 k1 k2 k3) (val4 u0 u1 u2 u3) x1) 1 /\ (0 : Int) = limb (lx0 (val4 k0 k1 k2 k3) (val4 u0 u1 u2 u3) x1) 2 /\ (0 : Int) = limb (lx0 (val4 k0 k1 k2 k3) (val4 u0 u1 u2 u3) x1) 3 /\ (0 : Int) = limb (lx1 (val4 k0 k1 k2 k3) (val4 u0 u1 u2 u3) x1) 0 /\ (0 : Int) = limb (lx1 (val4 k0 k1 k2 k3) (val4 u0 u1 u2 u3) x1) 1 /\ (0 : Int) = limb (lx1 (val4 k0 k1 k2 k3) (val4 u0 u1 u2 u3) x1) 2 /\ (0 : Int) = limb (lx1 (val4 k0 k1 k2 k3) (val4 u0 u1 u2 u3) x1) 3 /\ True) /\ (u0 = limb (ly0 (val4 k0 k1 k2 k3) (val4 u0 u1 u2 u3) x1) 0 /\ u1 = limb (ly0 (val4 k0 k1 k2 k3) (val4 u0 u1 u2 u3) x1) 1 /\ u2 = limb (ly0 (val4 k0 k1 k2 k3) (val4 u0 u1 u2 u3) x1) 2 /\ u3 = limb (ly0 (val4 k0 k1 k2 k3) (val4 u0 u1 u2 u3) x1) 3 /\ (1 : Int) = limb (ly1 (val4 k0 k1 k2 k3) (val4 u0 u1 u2 u3) x1) 0 /\ (0 : Int) = limb (ly1 (val4 k0 k1 k2 k3) (val4 u0 u1 u2 u3) x1) 1 /\ (0 : Int) = limb (ly1 (val4 k0 k1 k2 k3) (val4 u0 u1 u2 u3) x1) 2 /\ (0 : Int) = limb (ly1 (val4 k0 k1 k2 k3) (val4 u0 u1 u2 u3) x1) 3 /\ True) /\ (k0 = k0 /\ k1 = k1 /\ k2 = k2 /\ k3 = k3 /\ True) /\ True /\ ((True /\ True /\ True /\ True /\ True /\ True) /\ sameCode (rfAt Try.prog 90 0).fst (rfAt Try.prog 90 0).fst /\ sameCode (rfAt Try.prog 90 0).snd (rfAt Try.prog 90 0).snd) /\ True) /\ ∀ (v2 : Int), (-1 : Int) ≤ v2 /\ v2 ≤ (254 : Int) -> ∀ v3, v3 = decide (v2 ≥ (0 : Int)) -> (v3 = true -> (U64 k0 /\ U64 k1 /\ U64 k2 /\ U64 k3 /\ I64 v2) /\ ∀ v4, v4 = bitF (val4 k0 k1 k2 k3) v2 -> ∀ v5, v5 = (v4 == (1 : Int)) -> (v5 = true -> (GLadder2 k0 k1 k2 k3 u0 u1 u2 u3 v2) /\ ∀ v6, v6 = a5 (val4 (limb (ly0 (val4 k0 k1 k2 k3) (val4 u0 u1 u2 u3) v2) 0) (limb (ly0 (val4 k0 k1 k2 k3) (val4 u0 u1 u2 u3) v2) 1) (limb (ly0 (val4 k0 k1 k2 k3) (val4 u0 u1 u2 u3) v2) 2) (limb (ly0 (val4 k0 k1 k2 k3) (val4 u0 u1 u2 u3) v2) 3)) (val4 (limb (ly1 (val4 k0 k1 k2 k3) (val4 u0 u1 u2 u3) v2) 0) (limb (ly1 (val4 k0 k1 k2 k3) (val4 u0 u1 u2 u3) v2) 1) (limb (ly1 (val4 k0 k1 k2 k3) (val4 u0 u1 u2 u3) v2) 2) (limb (ly1 (val4 k0 k1 k2 k3) (val4 u0 u1 u2 u3) v2) 3)) -> (GLadder2 k0 k1 k2 k3 u0 u1 u2 u3 v2) /\ ∀ v7, v7 = s5 (val4 (limb (ly0 (val4 k0 k1 k2 k3) (val4 u0 u1 u2 u3) v2) 0) (limb (ly0 (val4 k0 k1 k2 k3) (val4 u0 u1 u2 u3) v2) 1) (limb (ly0 (val4 k0 k1 k2 k3) (val4 u0 u1 u2 u3) v2) 2) (limb (ly0 (val4 k0 k1 k2 k3) (val4 u0 u1 u2 u3) v2) 3)) (val4 (limb (ly1 (val4 k0 k1 k2 k3) (val4 u0 u1 u2 u3) v2) 0) (limb (ly1 (val4 k0 k1 k2 k3) (val4 u0 u1 u2 u3) v2) 1) (limb (ly1 (val4 k0 k1 k2 k3) (val4 u0 u1 u2 u3) v2) 2) (limb (ly1 (val4 k0 k1 k2 k3) (val4 u0 u1 u2 u3) v2) 3)) -> (GLadder3 k0 k1 k2 k3 u0 u1 u2 u3 v2) /\ ∀ v8, v8 = s5 (val4 (limb (lx0 (val4 k0 k1 k2 k3) (val4 u0 u1 u2 u3) v2) 0) (limb (lx0 (val4 k0 k1 k2 k3) (val4 u0 u1 u2 u3) v2) 1) (limb (lx0 (val4 k0 k1 k2 k3) (val4 u0 u1 u2 u3) v2) 2) (limb (lx0 (val4 k0 k1 k2 k3) (val4 u0 u1 u2 u3) v2) 3)) (val4 (limb (lx1 (val4 k0 k1 k2 k3) (val4 u0 u1 u2 u3) v2) 0) (limb (lx1 (val4 k0 k1 k2 k3) (val4 u0 u1 u2 u3) v2) 1) (limb (lx1 (val4 k0 k1 k2 k3) (val4 u0 u1 u2 u3) v2) 2) (limb (lx1 (val4 k0 k1 k2 k3) (val4 u0 u1 u2 u3) v2) 3)) -> (GLadder4 v8 v6) /\ ∀ v9, v9 = t5 (val4 (limb v8 0) (limb v8 1) (limb v8 2) (limb v8 3)) (val4 (limb v6 0) (limb v6 1) (limb v6 2) (limb v6 3)) -> (GLadder3 k0 k1 k2 k3 u0 u1 u2 u3 v2) /\ ∀ v10, v10 = a5 (val4 (limb (lx0 (val4 k0 k1 k2 k3) (val4 u0 u1 u2 u3) v2) 0) (limb (lx0 (val4 k0 k1 k2 k3) (val4 u0 u1 u2 u3) v2) 1) (limb (lx0 (val4 k0 k1 k2 k3) (val4 u0 u1 u2 u3) v2) 2) (limb (lx0 (val4 k0 k1 k2 k3) (val4 u0 u1 u2 u3) v2) 3)) (val4 (limb (lx1 (val4 k0 k1 k2 k3) (val4 u0 u1 u2 u3) v2) 0) (limb (lx1 (val4 k0 k1 k2 k3) (val4 u0 u1 u2 u3) v2) 1) (limb (lx1 (val4 k0 k1 k2 k3) (val4 u0 u1 u2 u3) v2) 2) (limb (lx1 (val4 k0 k1 k2 k3) (val4 u0 u1 u2 u3) v2) 3)) -> (GLadder4 v10 v7) /\ ∀ v11, v11 = t5 (val4 (limb v10 0) (limb v10 1) (limb v10 2) (limb v10 3)) (val4 (limb v7 0) (limb v7 1) (limb v7 2) (limb v7 3)) -> (GLadder5 v6) /\ ∀ v12, v12 = t5 (val4 (limb v6 0) (limb v6 1) (limb v6 2) (limb v6 3)) (val4 (limb v6 0) (limb v6 1) (limb v6 2) (limb v6 3)) -> (GLadder5 v7) /\ ∀ v13, v13 = t5 (val4 (limb v7 0) (limb v7 1) (limb v7 2) (limb v7 3)) (val4 (limb v7 0) (limb v7 1) (limb v7 2) (limb v7 3)) -> (GLadder4 v12 v13) /\ ∀ v14, v14 = s5 (val4 (limb v12 0) (limb v12 1) (limb v12 2) (limb v12 3)) (val4 (limb v13 0) (limb v13 1) (limb v13 2) (limb v13 3)) -> (GLadder4 v12 v13) /\ ∀ v15, v15 = t5 (val4 (limb v12 0) (limb v12 1) (limb v12 2) (limb v12 3)) (val4 (limb v13 0) (limb v13 1) (limb v13 2) (limb v13 3)) -> (U64 121665 /\ U64 0 /\ U64 0 /\ U64 0 /\ U64 (limb v14 0) /\ U64 (limb v14 1) /\ U64 (limb v14 2) /\ U64 (limb v14 3)) /\ ∀ v16, v16 = t5 121665 (val4 (limb v14 0) (limb v14 1) (limb v14 2) (limb v14 3)) -> (GLadder4 v12 v16) /\ ∀ v17, v17 = a5 (val4 (limb v12 0) (limb v12 1) (limb v12 2) (limb v12 3)) (val4 (limb v16 0) (limb v16 1) (limb v16 2) (limb v16 3)) -> (GLadder4 v14 v17) /\ ∀ v18, v18 = t5 (val4 (limb v14 0) (limb v14 1) (limb v14 2) (limb v14 3)) (val4 (limb v17 0) (limb v17 1) (limb v17 2) (limb v17 3)) -> (GLadder4 v9 v11) /\ ∀ v19, v19 = a5 (val4 (limb v9 0) (limb v9 1) (limb v9 2) (limb v9 3)) (val4 (limb v11 0) (limb v11 1) (limb v11 2) (limb v11 3)) -> (GLadder5 v19) /\ ∀ v20, v20 = t5 (val4 (limb v19 0) (limb v19 1) (limb v19 2) (limb v19 3)) (val4 (limb v19 0) (limb v19 1) (limb v19 2) (limb v19 3)) -> (GLadder4 v9 v11) /\ ∀ v21, v21 = s5 (val4 (limb v9 0) (limb v9 1) (limb v9 2) (limb v9 3)) (val4 (limb v11 0) (limb v11 1) (limb v11 2) (limb v11 3)) -> (GLadder5 v21) /\ ∀ v22, v22 = t5 (val4 (limb v21 0) (limb v21 1) (limb v21 2) (limb v21 3)) (val4 (limb v21 0) (limb v21 1) (limb v21 2) (limb v21 3)) -> (U64 u0 /\ U64 u1 /\ U64 u2 /\ U64 u3 /\ U64 (limb v22 0) /\ U64 (limb v22 1) /\ U64 (limb v22 2) /\ U64 (limb v22 3)) /\ ∀ v23, v23 = t5 (val4 u0 u1 u2 u3) (val4 (limb v22 0) (limb v22 1) (limb v22 2) (limb v22 3)) -> ∀ v24, v24 = IntKind.i64.wrap (v2 - (1 : Int)) -> ∃ (x25 : Int), ((-1 : Int) ≤ x25 /\ x25 ≤ (254 : Int)) /\ (GLadder1 v24 x25 k0 k1 k2 k3 u0 u1 u2 u3 v20 v23 v15 v18) /\ (x25 + (1 : Int)).toNat < (v2 + (1 : Int)).toNat) /\ (v5 = false -> (GLadder3 k0 k1 k2 k3 u0 u1 u2 u3 v2) /\ ∀ v26, v26 = a5 (val4 (limb (lx0 (val4 k0 k1 k2 k3) (val4 u0 u1 u2 u3) v2) 0) (limb (lx0 (val4 k0 k1 k2 k3) (val4 u0 u1 u2 u3) v2) 1) (limb (lx0 (val4 k0 k1 k2 k3) (val4 u0 u1 u2 u3) v2) 2) (limb (lx0 (val4 k0 k1 k2 k3) (val4 u0 u1 u2 u3) v2) 3)) (val4 (limb (lx1 (val4 k0 k1 k2 k3) (val4 u0 u1 u2 u3) v2) 0) (limb (lx1 (val4 k0 k1 k2 k3) (val4 u0 u1 u2 u3) v2) 1) (limb (lx1 (val4 k0 k1 k2 k3) (val4 u0 u1 u2 u3) v2) 2) (limb (lx1 (val4 k0 k1 k2 k3) (val4 u0 u1 u2 u3) v2) 3)) -> (GLadder3 k0 k1 k2 k3 u0 u1 u2 u3 v2) /\ ∀ v27, v27 = s5 (val4 (limb (lx0 (val4 k0 k1 k2 k3) (val4 u0 u1 u2 u3) v2) 0) (limb (lx0 (val4 k0 k1 k2 k3) (val4 u0 u1 u2 u3) v2) 1) (limb (lx0 (val4 k0 k1 k2 k3) (val4 u0 u1 u2 u3) v2) 2) (limb (lx0 (val4 k0 k1 k2 k3) (val4 u0 u1 u2 u3) v2) 3)) (val4 (limb (lx1 (val4 k0 k1 k2 k3) (val4 u0 u1 u2 u3) v2) 0) (limb (lx1 (val4 k0 k1 k2 k3) (val4 u0 u1 u2 u3) v2) 1) (limb (lx1 (val4 k0 k1 k2 k3) (val4 u0 u1 u2 u3) v2) 2) (limb (lx1 (val4 k0 k1 k2 k3) (val4 u0 u1 u2 u3) v2) 3)) -> (GLadder2 k0 k1 k2 k3 u0 u1 u2 u3 v2) /\ ∀ v28, v28 = s5 (val4 (limb (ly0 (val4 k0 k1 k2 k3) (val4 u0 u1 u2 u3) v2) 0) (limb (ly0 (val4 k0 k1 k2 k3) (val4 u0 u1 u2 u3) v2) 1) (limb (ly0 (val4 k0 k1 k2 k3) (val4 u0 u1 u2 u3) v2) 2) (limb (ly0 (val4 k0 k1 k2 k3) (val4 u0 u1 u2 u3) v2) 3)) (val4 (limb (ly1 (val4 k0 k1 k2 k3) (val4 u0 u1 u2 u3) v2) 0) (limb (ly1 (val4 k0 k1 k2 k3) (val4 u0 u1 u2 u3) v2) 1) (limb (ly1 (val4 k0 k1 k2 k3) (val4 u0 u1 u2 u3) v2) 2) (limb (ly1 (val4 k0 k1 k2 k3) (val4 u0 u1 u2 u3) v2) 3)) -> (GLadder4 v28 v26) /\ ∀ v29, v29 = t5 (val4 (limb v28 0) (limb v28 1) (limb v28 2) (limb v28 3)) (val4 (limb v26 0) (limb v26 1) (limb v26 2) (limb v26 3)) -> (GLadder2 k0 k1 k2 k3 u0 u1 u2 u3 v2) /\ ∀ v30, v30 = a5 (val4 (limb (ly0 (val4 k0 k1 k2 k3) (val4 u0 u1 u2 u3) v2) 0) (limb (ly0 (val4 k0 k1 k2 k3) (val4 u0 u1 u2 u3) v2) 1) (limb (ly0 (val4 k0 k1 k2 k3) (val4 u0 u1 u2 u3) v2) 2) (limb (ly0 (val4 k0 k1 k2 k3) (val4 u0 u1 u2 u3) v2) 3)) (val4 (limb (ly1 (val4 k0 k1 k2 k3) (val4 u0 u1 u2 u3) v2) 0) (limb (ly1 (val4 k0 k1 k2 k3) (val4 u0 u1 u2 u3) v2) 1) (limb (ly1 (val4 k0 k1 k2 k3) (val4 u0 u1 u2 u3) v2) 2) (limb (ly1 (val4 k0 k1 k2 k3) (val4 u0 u1 u2 u3) v2) 3)) -> (GLadder4 v30 v27) /\ ∀ v31, v31 = t5 (val4 (limb v30 0) (limb v30 1) (limb v30 2) (limb v30 3)) (val4 (limb v27 0) (limb v27 1) (limb v27 2) (limb v27 3)) -> (GLadder5 v26) /\ ∀ v32, v32 = t5 (val4 (limb v26 0) (limb v26 1) (limb v26 2) (limb v26 3)) (val4 (limb v26 0) (limb v26 1) (limb v26 2) (limb v26 3)) -> (GLadder5 v27) /\ ∀ v33, v33 = t5 (val4 (limb v27 0) (limb v27 1) (limb v27 2) (limb v27 3)) (val4 (limb v27 0) (limb v27 1) (limb v27 2) (limb v27 3)) -> (GLadder4 v32 v33) /\ ∀ v34, v34 = s5 (val4 (limb v32 0) (limb v32 1) (limb v32 2) (limb v32 3)) (val4 (limb v33 0) (limb v33 1) (limb v33 2) (limb v33 3)) -> (GLadder4 v32 v33) /\ ∀ v35, v35 = t5 (val4 (limb v32 0) (limb v32 1) (limb v32 2) (limb v32 3)) (val4 (limb v33 0) (limb v33 1) (limb v33 2) (limb v33 3)) -> (U64 121665 /\ U64 0 /\ U64 0 /\ U64 0 /\ U64 (limb v34 0) /\ U64 (limb v34 1) /\ U64 (limb v34 2) /\ U64 (limb v34 3)) /\ ∀ v36, v36 = t5 121665 (val4 (limb v34 0) (limb v34 1) (limb v34 2) (limb v34 3)) -> (GLadder4 v32 v36) /\ ∀ v37, v37 = a5 (val4 (limb v32 0) (limb v32 1) (limb v32 2) (limb v32 3)) (val4 (limb v36 0) (limb v36 1) (limb v36 2) (limb v36 3)) -> (GLadder4 v34 v37) /\ ∀ v38, v38 = t5 (val4 (limb v34 0) (limb v34 1) (limb v34 2) (limb v34 3)) (val4 (limb v37 0) (limb v37 1) (limb v37 2) (limb v37 3)) -> (GLadder4 v29 v31) /\ ∀ v39, v39 = a5 (val4 (limb v29 0) (limb v29 1) (limb v29 2) (limb v29 3)) (val4 (limb v31 0) (limb v31 1) (limb v31 2) (limb v31 3)) -> (GLadder5 v39) /\ ∀ v40, v40 = t5 (val4 (limb v39 0) (limb v39 1) (limb v39 2) (limb v39 3)) (val4 (limb v39 0) (limb v39 1) (limb v39 2) (limb v39 3)) -> (GLadder4 v29 v31) /\ ∀ v41, v41 = s5 (val4 (limb v29 0) (limb v29 1) (limb v29 2) (limb v29 3)) (val4 (limb v31 0) (limb v31 1) (limb v31 2) (limb v31 3)) -> (GLadder5 v41) /\ ∀ v42, v42 = t5 (val4 (limb v41 0) (limb v41 1) (limb v41 2) (limb v41 3)) (val4 (limb v41 0) (limb v41 1) (limb v41 2) (limb v41 3)) -> (U64 u0 /\ U64 u1 /\ U64 u2 /\ U64 u3 /\ U64 (limb v42 0) /\ U64 (limb v42 1) /\ U64 (limb v42 2) /\ U64 (limb v42 3)) /\ ∀ v43, v43 = t5 (val4 u0 u1 u2 u3) (val4 (limb v42 0) (limb v42 1) (limb v42 2) (limb v42 3)) -> ∀ v44, v44 = IntKind.i64.wrap (v2 - (1 : Int)) -> ∃ (x45 : Int), ((-1 : Int) ≤ x45 /\ x45 ≤ (254 : Int)) /\ (GLadder1 v44 x45 k0 k1 k2 k3 u0 u1 u2 u3 v35 v38 v40 v43) /\ (x45 + (1 : Int)).toNat < (v2 + (1 : Int)).toNat)) /\ (v3 = false -> (U64 (limb (lx1 (val4 k0 k1 k2 k3) (val4 u0 u1 u2 u3) v2) 0) /\ U64 (limb (lx1 (val4 k0 k1 k2 k3) (val4 u0 u1 u2 u3) v2) 1) /\ U64 (limb (lx1 (val4 k0 k1 k2 k3) (val4 u0 u1 u2 u3) v2) 2) /\ U64 (limb (lx1 (val4 k0 k1 k2 k3) (val4 u0 u1 u2 u3) v2) 3) /\ U64 18446744073709551597 /\ U64 18446744073709551615 /\ U64 18446744073709551615 /\ U64 9223372036854775807) /\ ∀ v46, v46 = invF (val4 (limb (lx1 (val4 k0 k1 k2 k3) (val4 u0 u1 u2 u3) v2) 0) (limb (lx1 (val4 k0 k1 k2 k3) (val4 u0 u1 u2 u3) v2) 1) (limb (lx1 (val4 k0 k1 k2 k3) (val4 u0 u1 u2 u3) v2) 2) (limb (lx1 (val4 k0 k1 k2 k3) (val4 u0 u1 u2 u3) v2) 3)) (57896044618658097711785492504343953926634992332820282019728792003956564819949 : Int) -> ∀ v47, v47 = okF (val4 (limb (lx1 (val4 k0 k1 k2 k3) (val4 u0 u1 u2 u3) v2) 0) (limb (lx1 (val4 k0 k1 k2 k3) (val4 u0 u1 u2 u3) v2) 1) (limb (lx1 (val4 k0 k1 k2 k3) (val4 u0 u1 u2 u3) v2) 2) (limb (lx1 (val4 k0 k1 k2 k3) (val4 u0 u1 u2 u3) v2) 3)) (57896044618658097711785492504343953926634992332820282019728792003956564819949 : Int) -> (U64 (limb (lx0 (val4 k0 k1 k2 k3) (val4 u0 u1 u2 u3) v2) 0) /\ U64 (limb (lx0 (val4 k0 k1 k2 k3) (val4 u0 u1 u2 u3) v2) 1) /\ U64 (limb (lx0 (val4 k0 k1 k2 k3) (val4 u0 u1 u2 u3) v2) 2) /\ U64 (limb (lx0 (val4 k0 k1 k2 k3) (val4 u0 u1 u2 u3) v2) 3) /\ U64 (limb v46 0) /\ U64 (limb v46 1) /\ U64 (limb v46 2) /\ U64 (limb v46 3)) /\ ∀ v48, v48 = t5 (val4 (limb (lx0 (val4 k0 k1 k2 k3) (val4 u0 u1 u2 u3) v2) 0) (limb (lx0 (val4 k0 k1 k2 k3) (val4 u0 u1 u2 u3) v2) 1) (limb (lx0 (val4 k0 k1 k2 k3) (val4 u0 u1 u2 u3) v2) 2) (limb (lx0 (val4 k0 k1 k2 k3) (val4 u0 u1 u2 u3) v2) 3)) (val4 (limb v46 0) (limb v46 1) (limb v46 2) (limb v46 3)) -> (IntKind.u64 = IntKind.u64 /\ limb v48 0 = limb (lxI (val4 k0 k1 k2 k3) (val4 u0 u1 u2 u3)) 0) /\ (IntKind.u64 = IntKind.u64 /\ limb v48 1 = limb (lxI (val4 k0 k1 k2 k3) (val4 u0 u1 u2 u3)) 1) /\ (IntKind.u64 = IntKind.u64 /\ limb v48 2 = limb (lxI (val4 k0 k1 k2 k3) (val4 u0 u1 u2 u3)) 2) /\ (IntKind.u64 = IntKind.u64 /\ limb v48 3 = limb (lxI (val4 k0 k1 k2 k3) (val4 u0 u1 u2 u3)) 3) /\ True)
theorem tieLadder (w0 : World) (k0 : Int) (k1 : Int) (k2 : Int) (k3 : Int) (u0 : Int) (u1 : Int) (u2 : Int) (u3 : Int) : VCLadder k0 k1 k2 k3 u0 u1 u2 u3 = ((recN (GL Try.prog xd2Spec ladAnnSpec ladCutSpec w0) 40).call 90 [.agg [.int .u64 (.sym k0), .int .u64 (.sym k1), .int .u64 (.sym k2), .int .u64 (.sym k3)], .agg [.int .u64 (.sym u0), .int .u64 (.sym u1), .int .u64 (.sym u2), .int .u64 (.sym u3)]] [] (fun r__ _ => eqV r__ (.agg [.int .u64 (.sym (limb (lxI (val4 k0 k1 k2 k3) (val4 u0 u1 u2 u3)) 0)), .int .u64 (.sym (limb (lxI (val4 k0 k1 k2 k3) (val4 u0 u1 u2 u3)) 1)), .int .u64 (.sym (limb (lxI (val4 k0 k1 k2 k3) (val4 u0 u1 u2 u3)) 2)), .int .u64 (.sym (limb (lxI (val4 k0 k1 k2 k3) (val4 u0 u1 u2 u3)) 3))]))) := by kernel_rfl
theorem pureLadder (k0 k1 k2 k3 u0 u1 u2 u3 : Int) (h : U64 k0 ∧ U64 k1 ∧ U64 k2 ∧ U64 k3 ∧ U64 u0 ∧ U64 u1 ∧ U64 u2 ∧ U64 u3) : VCLadder k0 k1 k2 k3 u0 u1 u2 u3 := by
  obtain ⟨hk0, hk1, hk2, hk3, hu0, hu1, hu2, hu3⟩ := h
  have bk := val4_lt hk0 hk1 hk2 hk3
  have bu := val4_lt hu0 hu1 hu2 hu3
  obtain ⟨lu0, lu1, lu2, lu3⟩ := limbs4' hu0 hu1 hu2 hu3
  obtain ⟨q0, q1, q2, q3⟩ := m5
  obtain ⟨s0, s1, s2, s3⟩ := ld_start (val4 k0 k1 k2 k3) (val4 u0 u1 u2 u3)
  have t4 : ∀ {x y z w : Int}, (x = x ∧ y = y ∧ z = z ∧ w = w ∧ True) := fun {x y z w} => ⟨rfl, rfl, rfl, rfl, trivial⟩
  refine ⟨⟨254, ⟨by decide, by decide⟩, ⟨trivial, trivial, rfl, trivial⟩, t4, t4, t4, ?_, ?_, t4, trivial, ⟨⟨trivial, trivial, trivial, trivial, trivial, trivial⟩, rfl, rfl⟩, trivial⟩, fun i hi => ?_⟩
  · rw [s0, s1]
    exact ⟨l1_0.1, l1_0.2.1, l1_0.2.2.1, l1_0.2.2.2, l0_0.1, l0_0.2.1, l0_0.2.2.1, l0_0.2.2.2, trivial⟩
  · rw [s2, s3]
    exact ⟨lu0.symm, lu1.symm, lu2.symm, lu3.symm, l1_0.1, l1_0.2.1, l1_0.2.2.1, l1_0.2.2.2, trivial⟩
  have eu0 : U64 u0 = True := eq_true hu0
  have eu1 : U64 u1 = True := eq_true hu1
  have eu2 : U64 u2 = True := eq_true hu2
  have eu3 : U64 u3 = True := eq_true hu3
  have ec : U64 121665 = True := eq_true (by decide)
  have ez : U64 0 = True := eq_true U64_0
  refine br (fun c => ⟨⟨hk0, hk1, hk2, hk3, by unfold I64; omega⟩, fun v4 h4 => ?_⟩) fun c => ?_
  · have hw : IntKind.i64.wrap (i - 1) = i - 1 := i64_id (by omega) (by omega)
    subst h4
    refine brE (fun c5 => ?_) (fun c5 => ?_)
    · have st := ld_one (u := val4 u0 u1 u2 u3) bk.1 (show 0 ≤ i ∧ i ≤ 254 by omega) c5
      simp only [forall_eq, GLadder1, GLadder2, GLadder3, GLadder4, GLadder5, ul, lt5, la5, ls5, llx0 bu, llx1 bu, lly0 bu, lly1 bu, eu0, eu1, eu2, eu3, ec, ez, hw, true_and, and_true]
      refine ⟨i - 1, ⟨by omega, by omega⟩, ?_, by omega⟩
      simp only [lx0, lx1, ly0, ly1] at st ⊢
      rw [st]
      simp only [stI, sameCode, and_true]
    · have st := ld_zero (u := val4 u0 u1 u2 u3) bk.1 (show 0 ≤ i ∧ i ≤ 254 by omega) c5
      simp only [forall_eq, GLadder1, GLadder2, GLadder3, GLadder4, GLadder5, ul, lt5, la5, ls5, llx0 bu, llx1 bu, lly0 bu, lly1 bu, eu0, eu1, eu2, eu3, ec, ez, hw, true_and, and_true]
      refine ⟨i - 1, ⟨by omega, by omega⟩, ?_, by omega⟩
      simp only [lx0, lx1, ly0, ly1] at st ⊢
      rw [st]
      simp only [stI, sameCode, and_true]
  · have ei : i = -1 := by omega
    subst ei
    have i1 : inP5 (lx1 (val4 k0 k1 k2 k3) (val4 u0 u1 u2 u3) (-1)) := (ld_in bu _).1.2
    refine ⟨⟨limb_in .., limb_in .., limb_in .., limb_in .., q0, q1, q2, q3⟩, fun v h v' h' => ⟨⟨limb_in .., limb_in .., limb_in .., limb_in .., limb_in .., limb_in .., limb_in .., limb_in ..⟩, fun w hw => limb_eq ?_⟩⟩
    rw [hw, h, llx0 bu, llx1 bu]
    have nn := invF_lt (a := lx1 (val4 k0 k1 k2 k3) (val4 u0 u1 u2 u3) (-1)) (m := 57896044618658097711785492504343953926634992332820282019728792003956564819949) (by decide)
    rw [val4_limb' nn.1 (by omega), inv_pow5 i1]
    rfl
theorem ladder_ok : SpecOk Try.prog 90 ladderSpec := by
  intro args k h
  unfold ladderSpec at h
  split at h
  · rename_i k0 k1 k2 k3 u0 u1 u2 u3
    obtain ⟨hr, h⟩ := h
    exact ⟨_, h _ rfl, PureOk.of_tie (GL Try.prog xd2Spec ladAnnSpec ladCutSpec) (fun w__ => gokL w__ namesOk_ mixed_ xd2_ok) (fun _ => rfl) (fun _ => rfl) (args' := [.agg [.int .u64 (.sym k0.val), .int .u64 (.sym k1.val), .int .u64 (.sym k2.val), .int .u64 (.sym k3.val)], .agg [.int .u64 (.sym u0.val), .int .u64 (.sym u1.val), .int .u64 (.sym u2.val), .int .u64 (.sym u3.val)]]) ⟨⟨⟨rfl, rfl⟩, ⟨rfl, rfl⟩, ⟨rfl, rfl⟩, ⟨rfl, rfl⟩, trivial⟩, ⟨⟨rfl, rfl⟩, ⟨rfl, rfl⟩, ⟨rfl, rfl⟩, ⟨rfl, rfl⟩, trivial⟩, trivial⟩ 40 (fun w__ => VCLadder k0.val k1.val k2.val k3.val u0.val u1.val u2.val u3.val) (fun w__ => tieLadder w__ k0.val k1.val k2.val k3.val u0.val u1.val u2.val u3.val) (fun w__ => pureLadder k0.val k1.val k2.val k3.val u0.val u1.val u2.val u3.val hr)⟩
  · exact h.elim

end Go.Proofs.Ytaaobpalpcdlbaa.Bits
