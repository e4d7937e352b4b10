import Derived.Test.YtaaobpalpcdlbaaDoorSxR
import Derived.Test.YtaaobpalpcdlbaaDoorProg
import Derived.Test.YtaaobpalpcdlbaaDoorDv4
import Derived.Test.YtaaobpalpcdlbaaDoorNum13
import Derived.KernelRfl
namespace Go.Proofs.YtaaobpalpcdlbaaDoor.Bits
open Go Go.Sx Go.RowKit
set_option linter.unusedVariables false
set_option maxRecDepth 100000
def val4hSpec (S : St) (b : Nat) : Int := val4 (hat S b 0) (hat S b 1) (hat S b 2) (hat S b 3)
def rLenASpec : St → Inv := fun S =>
  { ι := Int, T := fun i => stS (keepS S [1, 2]) [(3, .int .i64 (.sym i))], R := fun i => (-1 ≤ i ∧ i ≤ 255) ∧ val4 (hat S 0 0) (hat S 0 1) (hat S 0 2) (hat S 0 3) < 2 ^ (i + 1).toNat, μ := fun i => (i + 1).toNat }
def bitW (x i : Int) : Int := x / 2 ^ i.toNat % 2
def rDivR (n m i : Int) : Int := n / 2 ^ (i + 1).toNat % m
def rDivQ (n m i : Int) : Int := n / 2 ^ (i + 1).toNat / m * 2 ^ (i + 1).toNat
def rdInv (n m i r0 r1 r2 r3 q0 q1 q2 q3 q4 q5 q6 q7 : Int) : Prop :=
  (-1 ≤ i ∧ i ≤ 511) ∧ (val4 r0 r1 r2 r3 = rDivR n m i ∧ val8 q0 q1 q2 q3 q4 q5 q6 q7 = rDivQ n m i) ∧ (U64 r0 ∧ U64 r1 ∧ U64 r2 ∧ U64 r3) ∧ U64 q0 ∧ U64 q1 ∧ U64 q2 ∧ U64 q3 ∧ U64 q4 ∧ U64 q5 ∧ U64 q6 ∧ U64 q7
def rDivASpec : St → Inv := fun S =>
  { ι := Int × (Nat → Int) × (Int → Int)
    T := fun p => stS (keepS (setF (setWSpec S 6 0 p.2.1 4) 7 8 [.int .u64 p.2.2]) [3, 4, 5, 6, 7, 8, 9, 10, 11]) [(12, .int .i64 (.sym p.1))]
    R := fun p => rdInv (val8 (hat S 0 0) (hat S 0 1) (hat S 0 2) (hat S 0 3) (hat S 1 0) (hat S 1 1) (hat S 1 2) (hat S 1 3)) (val4 (hat S 2 0) (hat S 2 1) (hat S 2 2) (hat S 2 3)) p.1 (p.2.1 0) (p.2.1 1) (p.2.1 2) (p.2.1 3) (p.2.2 0) (p.2.2 1) (p.2.2 2) (p.2.2 3) (p.2.2 4) (p.2.2 5) (p.2.2 6) (p.2.2 7)
    μ := fun p => (p.1 + 1).toNat }
def rDivBSpec : St → Inv := fun S =>
  { ι := Int
    T := fun x => keepS (hset S 6 0 (.int .u64 (.sym x))) [3, 4, 5, 6, 7, 8, 9, 10, 11, 12, 13]
    R := fun x => x = hat S 6 0 + bitW (val8 (hat S 0 0) (hat S 0 1) (hat S 0 2) (hat S 0 3) (hat S 1 0) (hat S 1 1) (hat S 1 2) (hat S 1 3)) (iat S 12)
    μ := fun i => 0 }
def rdAnnSpec : Anns := [(22, 0, rLenASpec), (9, 0, rDivASpec)]
def rdCutSpec : Anns := [(9, 100036, rDivBSpec)]
def rdSpec : List (FuncId × CSpec) := [(20, rBitSpec), (14, rAddSpec), (16, rSubSpec), (18, rCmpSpec)]
theorem rd_ok : SpecsOk Tryd.prog rdSpec := ⟨rBit_ok, rAdd_ok, rSub_ok, rCmp_ok, trivial⟩
--@SQUEEZE
def rLenSpec : CSpec
  | [.agg [.int .u64 a0, .int .u64 a1, .int .u64 a2, .int .u64 a3]], k => ((U64 a0.val) ∧ (U64 a1.val) ∧ (U64 a2.val) ∧ (U64 a3.val)) ∧ (∀ r0 : Int, r0 = (lenF (val4 a0.val a1.val a2.val a3.val)) → k (.int .i64 (.sym r0)))
  | _, _ => False
@[simp] abbrev ERLen (y : Int) : Prop := y = y
def VCRLen (a0 : Int) (a1 : Int) (a2 : Int) (a3 : Int) : Prop :=
  (∃ (x1 : Int), (((-1 : Int) ≤ x1 /\ x1 ≤ (255 : Int)) /\ val4 a0 a1 a2 a3 < (2 : Int) ^ (x1 + (1 : Int)).toNat) /\ (True /\ ERLen 0 /\ (255 : Int) = x1 /\ True) /\ (ERLen a0 /\ ERLen a1 /\ ERLen a2 /\ ERLen a3 /\ True) /\ True) /\ ∀ (v2 : Int), ((-1 : Int) ≤ v2 /\ v2 ≤ (255 : Int)) /\ val4 a0 a1 a2 a3 < (2 : Int) ^ (v2 + (1 : Int)).toNat -> ∀ v3, v3 = decide (v2 ≥ (0 : Int)) -> (v3 = true -> (U64 a0 /\ U64 a1 /\ U64 a2 /\ U64 a3 /\ I64 v2) /\ ∀ v4, v4 = bitF (val4 a0 a1 a2 a3) v2 -> ∀ v5, v5 = (v4 == (1 : Int)) -> (v5 = true -> ∀ v6, v6 = IntKind.i64.wrap (v2 + (1 : Int)) -> IntKind.i64 = IntKind.i64 /\ v6 = lenF (val4 a0 a1 a2 a3)) /\ (v5 = false -> ∀ v7, v7 = IntKind.i64.wrap (v2 - (1 : Int)) -> ∃ (x8 : Int), (((-1 : Int) ≤ x8 /\ x8 ≤ (255 : Int)) /\ val4 a0 a1 a2 a3 < (2 : Int) ^ (x8 + (1 : Int)).toNat) /\ ((True /\ ERLen 0 /\ v7 = x8 /\ True) /\ (ERLen a0 /\ ERLen a1 /\ ERLen a2 /\ ERLen a3 /\ True) /\ True) /\ (x8 + (1 : Int)).toNat < (v2 + (1 : Int)).toNat)) /\ (v3 = false -> IntKind.i64 = IntKind.i64 /\ (0 : Int) = lenF (val4 a0 a1 a2 a3))
theorem tieRLen (w0 : World) (a0 : Int) (a1 : Int) (a2 : Int) (a3 : Int) : VCRLen a0 a1 a2 a3 = ((recN (GL Tryd.prog rdSpec rdAnnSpec rdCutSpec w0) 40).call 22 [.agg [.int .u64 (.sym a0), .int .u64 (.sym a1), .int .u64 (.sym a2), .int .u64 (.sym a3)]] [] (fun r__ _ => eqV r__ (.int .i64 (.sym (lenF (val4 a0 a1 a2 a3)))))) := by kernel_rfl
theorem lenF_top {x : Int} (k : Nat) (h : 2 ^ k ≤ x) (h2 : x < 2 ^ (k + 1)) : lenF x = k + 1 := by
  have p : (0 : Int) < 2 ^ k := Int.pow_pos (by omega)
  obtain ⟨j, e, a, b⟩ := lenF_spec (x := x) (by omega)
  rw [e]
  have h3 : j = k := by
    rcases Nat.lt_trichotomy j k with c | c | c
    · have : (2 : Int) ^ (j + 1) ≤ 2 ^ k := by
        have := Nat.pow_le_pow_right (show 0 < 2 by omega) (show j + 1 ≤ k by omega)
        exact_mod_cast this
      omega
    · exact c
    · have : (2 : Int) ^ (k + 1) ≤ 2 ^ j := by
        have := Nat.pow_le_pow_right (show 0 < 2 by omega) (show k + 1 ≤ j by omega)
        exact_mod_cast this
      omega
  omega
theorem pureRLen (a0 a1 a2 a3 : Int) (h : U64 a0 ∧ U64 a1 ∧ U64 a2 ∧ U64 a3) : VCRLen a0 a1 a2 a3 := by
  obtain ⟨h0, h1, h2, h3⟩ := h
  have b := val4_lt h0 h1 h2 h3
  have e256 : (2 : Int) ^ (256 : Nat) = 115792089237316195423570985008687907853269984665640564039457584007913129639936 := by decide +kernel
  refine ⟨⟨255, ⟨by omega, ?_⟩, ⟨trivial, rfl, rfl, trivial⟩, ⟨rfl, rfl, rfl, rfl, trivial⟩, trivial⟩, ?_⟩
  · show val4 a0 a1 a2 a3 < 2 ^ (256 : Nat)
    rw [e256]; exact b.2
  rintro i ⟨⟨i0, i1⟩, hx⟩
  refine br (fun c => ?_) fun c => ?_
  · refine ⟨⟨h0, h1, h2, h3, by omega, by omega⟩, fun v4 h4 => ?_⟩
    obtain ⟨k, rfl⟩ := Int.eq_ofNat_of_zero_le (show 0 ≤ i by omega)
    have e4 : v4 = val4 a0 a1 a2 a3 / 2 ^ k % 2 := by rw [h4]; unfold bitF; rw [if_neg (by omega)]; rfl
    have ek : ((k : Int) + 1).toNat = k + 1 := by omega
    rw [ek, Int.pow_succ] at hx
    have p : (0 : Int) < 2 ^ k := Int.pow_pos (by omega)
    have q1 := Int.ediv_mul_le (val4 a0 a1 a2 a3) (show (2 : Int) ^ k ≠ 0 by omega)
    have q2 := Int.lt_ediv_add_one_mul_self (val4 a0 a1 a2 a3) p
    have q3 : val4 a0 a1 a2 a3 / 2 ^ k < 2 := Int.ediv_lt_of_lt_mul p (by rw [Int.mul_comm]; exact hx)
    have q4 : 0 ≤ val4 a0 a1 a2 a3 / 2 ^ k := Int.ediv_nonneg b.1 (by omega)
    generalize val4 a0 a1 a2 a3 / 2 ^ k = q at *
    refine brE (fun c4 => ?_) fun c4 => ?_
    · intro v6 h6
      rw [i64_id (by omega) (by omega)] at h6
      have eq : q = 1 := by omega
      rw [eq, Int.one_mul] at q1
      exact ⟨rfl, by rw [h6, lenF_top k q1 (by rw [Int.pow_succ]; exact hx)]⟩
    · intro v7 h7
      rw [i64_id (by omega) (by omega)] at h7
      have eq : q = 0 := by omega
      rw [eq, Int.zero_add, Int.one_mul] at q2
      refine ⟨v7, ⟨by omega, ?_⟩, ⟨⟨trivial, rfl, rfl, trivial⟩, ⟨rfl, rfl, rfl, rfl, trivial⟩, trivial⟩, by omega⟩
      rw [show (v7 + 1).toNat = k by omega]; exact q2
  · have e : i = -1 := by omega
    subst e
    have : val4 a0 a1 a2 a3 < 1 := hx
    refine ⟨rfl, ?_⟩
    unfold lenF; rw [if_pos (by omega)]
theorem rLen_ok : SpecOk Tryd.prog 22 rLenSpec := by
  intro args k h
  unfold rLenSpec at h
  split at h
  · rename_i a0 a1 a2 a3
    obtain ⟨hr, h⟩ := h
    exact ⟨_, h _ rfl, PureOk.of_tie (GL Tryd.prog rdSpec rdAnnSpec rdCutSpec) (fun w__ => gokL w__ namesOk_ mixed_ rd_ok) (fun _ => rfl) (fun _ => rfl) (args' := [.agg [.int .u64 (.sym a0.val), .int .u64 (.sym a1.val), .int .u64 (.sym a2.val), .int .u64 (.sym a3.val)]]) ⟨⟨⟨rfl, rfl⟩, ⟨rfl, rfl⟩, ⟨rfl, rfl⟩, ⟨rfl, rfl⟩, trivial⟩, trivial⟩ 40 (fun w__ => VCRLen a0.val a1.val a2.val a3.val) (fun w__ => tieRLen w__ a0.val a1.val a2.val a3.val) (fun w__ => pureRLen a0.val a1.val a2.val a3.val hr)⟩
  · exact h.elim

theorem rd_step {n m : Int} (k : Nat) (hm : 0 < m) :
    let A := n / 2 ^ (k + 1)
    let R := 2 * (A % m) + n / 2 ^ k % 2
    n / 2 ^ k % m = (if m ≤ R then R - m else R) ∧ n / 2 ^ k / m = 2 * (A / m) + (if m ≤ R then 1 else 0) ∧ 0 ≤ R ∧ R < 2 * m := by
  intro A R
  have hA : n / 2 ^ k = 2 * A + n / 2 ^ k % 2 := by
    have e : A = n / 2 ^ k / 2 := by
      show n / 2 ^ (k + 1) = _
      rw [Int.pow_succ, ← Int.ediv_ediv_of_nonneg (Int.le_of_lt (Int.pow_pos (by omega)))]
    omega
  have d := Int.emod_add_mul_ediv A m
  have r0 := Int.emod_nonneg A (show m ≠ 0 by omega)
  have r1 := Int.emod_lt_of_pos A hm
  have hR : n / 2 ^ k = m * (2 * (A / m)) + R := by
    have : m * (2 * (A / m)) = 2 * (m * (A / m)) := by grind
    rw [this]; omega
  have b0 : 0 ≤ R ∧ R < 2 * m := by constructor <;> omega
  by_cases c : m ≤ R
  · rw [if_pos c, if_pos c]
    have hR' : n / 2 ^ k = (R - m) + m * (2 * (A / m) + 1) := by rw [Int.mul_add]; omega
    refine ⟨?_, ?_, b0⟩
    · rw [hR', Int.add_mul_emod_self_left, Int.emod_eq_of_lt (by omega) (by omega)]
    · rw [hR', Int.add_mul_ediv_left _ _ (by omega), Int.ediv_eq_zero_of_lt (by omega) (by omega)]; omega
  · rw [if_neg c, if_neg c]
    have hR' : n / 2 ^ k = R + m * (2 * (A / m)) := by omega
    refine ⟨?_, ?_, b0⟩
    · rw [hR', Int.add_mul_emod_self_left, Int.emod_eq_of_lt (by omega) (by omega)]
    · rw [hR', Int.add_mul_ediv_left _ _ (by omega), Int.ediv_eq_zero_of_lt (by omega) (by omega)]; omega
theorem orset {x t H : Int} {s : Nat} (hs : s < 64) (hx : U64 x) (h : x + 18446744073709551616 * H = t * 2 ^ (s + 1)) : bitI .or .u64 x (2 ^ s) = x + 2 ^ s ∧ U64 (x + 2 ^ s) := by
  have hP : (0 : Int) < 2 ^ s := Int.pow_pos (by omega)
  have hP2 : (2 : Int) ^ (s + 1) = 2 ^ s * 2 := Int.pow_succ 2 s
  have hE : (18446744073709551616 : Int) = 2 ^ (s + 1) * 2 ^ (63 - s) := by
    rw [← Int.pow_add, show s + 1 + (63 - s) = 64 by omega]; rfl
  have hE0 : (0 : Int) < 2 ^ (63 - s) := Int.pow_pos (by omega)
  have hc : x = (t - 2 ^ (63 - s) * H) * 2 ^ (s + 1) := by
    rw [hE] at h
    rw [Int.sub_mul, ← h]; grind
  generalize t - 2 ^ (63 - s) * H = c at hc
  have c0 : 0 ≤ c := by
    rcases Int.lt_or_le c 0 with z | z
    · have := Int.mul_neg_of_neg_of_pos z (show (0 : Int) < 2 ^ (s + 1) by omega)
      unfold U64 at hx; omega
    · exact z
  have c1 : c < 2 ^ (63 - s) := by
    rcases Int.lt_or_le c (2 ^ (63 - s)) with z | z
    · exact z
    · have := Int.mul_le_mul_of_nonneg_right z (show (0 : Int) ≤ 2 ^ (s + 1) by omega)
      rw [Int.mul_comm (2 ^ (63 - s)), ← hE] at this
      unfold U64 at hx; omega
  have c2 : c * 2 ^ (s + 1) ≤ (2 ^ (63 - s) - 1) * 2 ^ (s + 1) := Int.mul_le_mul_of_nonneg_right (by omega) (by omega)
  rw [Int.sub_mul, Int.mul_comm (2 ^ (63 - s)), ← hE, Int.one_mul] at c2
  unfold U64 at hx ⊢
  refine ⟨?_, by omega, by omega⟩
  rw [hc]
  exact or_parts_u64 c0 (by omega) (by omega) (by omega) (by omega) (by omega)
theorem qset {f : Int → Int} {w : Int} {s : Nat} {t : Int} (hw0 : 0 ≤ w) (hw1 : w < 8) (hs : s < 64) (hU : U64 (f 0) ∧ U64 (f 1) ∧ U64 (f 2) ∧ U64 (f 3) ∧ U64 (f 4) ∧ U64 (f 5) ∧ U64 (f 6) ∧ U64 (f 7))
    (hQ : val8 (f 0) (f 1) (f 2) (f 3) (f 4) (f 5) (f 6) (f 7) = t * (2 ^ (s + 1) * 2 ^ (64 * w.toNat))) :
    let g := updF f w (bitI .or .u64 (f w) (2 ^ s))
    val8 (g 0) (g 1) (g 2) (g 3) (g 4) (g 5) (g 6) (g 7) = val8 (f 0) (f 1) (f 2) (f 3) (f 4) (f 5) (f 6) (f 7) + 2 ^ s * 2 ^ (64 * w.toNat) ∧
    U64 (g 0) ∧ U64 (g 1) ∧ U64 (g 2) ∧ U64 (g 3) ∧ U64 (g 4) ∧ U64 (g 5) ∧ U64 (g 6) ∧ U64 (g 7) := by
  obtain ⟨u0, u1, u2, u3, u4, u5, u6, u7⟩ := hU
  intro g
  have hc : w = 0 ∨ w = 1 ∨ w = 2 ∨ w = 3 ∨ w = 4 ∨ w = 5 ∨ w = 6 ∨ w = 7 := by omega
  rcases hc with rfl | rfl | rfl | rfl | rfl | rfl | rfl | rfl
  · rw [show (64 * (0 : Int).toNat) = 0 from rfl, show (2 : Int) ^ 0 = 1 from rfl] at hQ ⊢
    have hT : t * (2 ^ (s + 1) * 1) = t * 2 ^ (s + 1) * 1 := by grind
    rw [hT] at hQ
    have key : f 0 + 18446744073709551616 * (f 1 + f 2 * 18446744073709551616 + f 3 * 340282366920938463463374607431768211456 + f 4 * 6277101735386680763835789423207666416102355444464034512896 + f 5 * 115792089237316195423570985008687907853269984665640564039457584007913129639936 + f 6 * 2135987035920910082395021706169552114602704522356652769947041607822219725780640550022962086936576 + f 7 * 39402006196394479212279040100143613805079739270465446667948293404245721771497210611414266254884915640806627990306816) = t * 2 ^ (s + 1) := by
      generalize t * 2 ^ (s + 1) = T at *
      unfold val8 val4 at hQ
      unfold U64 at *
      omega
    obtain ⟨k1, k2⟩ := orset hs u0 key
    have hg : g = updF f 0 (f 0 + 2 ^ s) := by show updF f 0 (bitI .or .u64 (f 0) (2 ^ s)) = _; rw [k1]
    have g0 : g 0 = f 0 + 2 ^ s := by rw [hg]; rfl
    have g1 : g 1 = f 1 := by rw [hg]; rfl
    have g2 : g 2 = f 2 := by rw [hg]; rfl
    have g3 : g 3 = f 3 := by rw [hg]; rfl
    have g4 : g 4 = f 4 := by rw [hg]; rfl
    have g5 : g 5 = f 5 := by rw [hg]; rfl
    have g6 : g 6 = f 6 := by rw [hg]; rfl
    have g7 : g 7 = f 7 := by rw [hg]; rfl
    rw [g0, g1, g2, g3, g4, g5, g6, g7]
    refine ⟨?_, k2, u1, u2, u3, u4, u5, u6, u7⟩
    generalize (2 : Int) ^ s = S
    unfold val8 val4
    omega
  · rw [show (64 * (1 : Int).toNat) = 64 from rfl, show (2 : Int) ^ 64 = 18446744073709551616 from rfl] at hQ ⊢
    have hT : t * (2 ^ (s + 1) * 18446744073709551616) = t * 2 ^ (s + 1) * 18446744073709551616 := by grind
    rw [hT] at hQ
    have key : f 1 + 18446744073709551616 * (f 2 + f 3 * 18446744073709551616 + f 4 * 340282366920938463463374607431768211456 + f 5 * 6277101735386680763835789423207666416102355444464034512896 + f 6 * 115792089237316195423570985008687907853269984665640564039457584007913129639936 + f 7 * 2135987035920910082395021706169552114602704522356652769947041607822219725780640550022962086936576) = t * 2 ^ (s + 1) := by
      generalize t * 2 ^ (s + 1) = T at *
      unfold val8 val4 at hQ
      unfold U64 at *
      omega
    obtain ⟨k1, k2⟩ := orset hs u1 key
    have hg : g = updF f 1 (f 1 + 2 ^ s) := by show updF f 1 (bitI .or .u64 (f 1) (2 ^ s)) = _; rw [k1]
    have g0 : g 0 = f 0 := by rw [hg]; rfl
    have g1 : g 1 = f 1 + 2 ^ s := by rw [hg]; rfl
    have g2 : g 2 = f 2 := by rw [hg]; rfl
    have g3 : g 3 = f 3 := by rw [hg]; rfl
    have g4 : g 4 = f 4 := by rw [hg]; rfl
    have g5 : g 5 = f 5 := by rw [hg]; rfl
    have g6 : g 6 = f 6 := by rw [hg]; rfl
    have g7 : g 7 = f 7 := by rw [hg]; rfl
    rw [g0, g1, g2, g3, g4, g5, g6, g7]
    refine ⟨?_, u0, k2, u2, u3, u4, u5, u6, u7⟩
    generalize (2 : Int) ^ s = S
    unfold val8 val4
    omega
  · rw [show (64 * (2 : Int).toNat) = 128 from rfl, show (2 : Int) ^ 128 = 340282366920938463463374607431768211456 from rfl] at hQ ⊢
    have hT : t * (2 ^ (s + 1) * 340282366920938463463374607431768211456) = t * 2 ^ (s + 1) * 340282366920938463463374607431768211456 := by grind
    rw [hT] at hQ
    have key : f 2 + 18446744073709551616 * (f 3 + f 4 * 18446744073709551616 + f 5 * 340282366920938463463374607431768211456 + f 6 * 6277101735386680763835789423207666416102355444464034512896 + f 7 * 115792089237316195423570985008687907853269984665640564039457584007913129639936) = t * 2 ^ (s + 1) := by
      generalize t * 2 ^ (s + 1) = T at *
      unfold val8 val4 at hQ
      unfold U64 at *
      omega
    obtain ⟨k1, k2⟩ := orset hs u2 key
    have hg : g = updF f 2 (f 2 + 2 ^ s) := by show updF f 2 (bitI .or .u64 (f 2) (2 ^ s)) = _; rw [k1]
    have g0 : g 0 = f 0 := by rw [hg]; rfl
    have g1 : g 1 = f 1 := by rw [hg]; rfl
    have g2 : g 2 = f 2 + 2 ^ s := by rw [hg]; rfl
    have g3 : g 3 = f 3 := by rw [hg]; rfl
    have g4 : g 4 = f 4 := by rw [hg]; rfl
    have g5 : g 5 = f 5 := by rw [hg]; rfl
    have g6 : g 6 = f 6 := by rw [hg]; rfl
    have g7 : g 7 = f 7 := by rw [hg]; rfl
    rw [g0, g1, g2, g3, g4, g5, g6, g7]
    refine ⟨?_, u0, u1, k2, u3, u4, u5, u6, u7⟩
    generalize (2 : Int) ^ s = S
    unfold val8 val4
    omega
  · rw [show (64 * (3 : Int).toNat) = 192 from rfl, show (2 : Int) ^ 192 = 6277101735386680763835789423207666416102355444464034512896 from rfl] at hQ ⊢
    have hT : t * (2 ^ (s + 1) * 6277101735386680763835789423207666416102355444464034512896) = t * 2 ^ (s + 1) * 6277101735386680763835789423207666416102355444464034512896 := by grind
    rw [hT] at hQ
    have key : f 3 + 18446744073709551616 * (f 4 + f 5 * 18446744073709551616 + f 6 * 340282366920938463463374607431768211456 + f 7 * 6277101735386680763835789423207666416102355444464034512896) = t * 2 ^ (s + 1) := by
      generalize t * 2 ^ (s + 1) = T at *
      unfold val8 val4 at hQ
      unfold U64 at *
      omega
    obtain ⟨k1, k2⟩ := orset hs u3 key
    have hg : g = updF f 3 (f 3 + 2 ^ s) := by show updF f 3 (bitI .or .u64 (f 3) (2 ^ s)) = _; rw [k1]
    have g0 : g 0 = f 0 := by rw [hg]; rfl
    have g1 : g 1 = f 1 := by rw [hg]; rfl
    have g2 : g 2 = f 2 := by rw [hg]; rfl
    have g3 : g 3 = f 3 + 2 ^ s := by rw [hg]; rfl
    have g4 : g 4 = f 4 := by rw [hg]; rfl
    have g5 : g 5 = f 5 := by rw [hg]; rfl
    have g6 : g 6 = f 6 := by rw [hg]; rfl
    have g7 : g 7 = f 7 := by rw [hg]; rfl
    rw [g0, g1, g2, g3, g4, g5, g6, g7]
    refine ⟨?_, u0, u1, u2, k2, u4, u5, u6, u7⟩
    generalize (2 : Int) ^ s = S
    unfold val8 val4
    omega
  · rw [show (64 * (4 : Int).toNat) = 256 from rfl, show (2 : Int) ^ 256 = 115792089237316195423570985008687907853269984665640564039457584007913129639936 from by decide +kernel] at hQ ⊢
    have hT : t * (2 ^ (s + 1) * 115792089237316195423570985008687907853269984665640564039457584007913129639936) = t * 2 ^ (s + 1) * 115792089237316195423570985008687907853269984665640564039457584007913129639936 := by grind
    rw [hT] at hQ
    have key : f 4 + 18446744073709551616 * (f 5 + f 6 * 18446744073709551616 + f 7 * 340282366920938463463374607431768211456) = t * 2 ^ (s + 1) := by
      generalize t * 2 ^ (s + 1) = T at *
      unfold val8 val4 at hQ
      unfold U64 at *
      omega
    obtain ⟨k1, k2⟩ := orset hs u4 key
    have hg : g = updF f 4 (f 4 + 2 ^ s) := by show updF f 4 (bitI .or .u64 (f 4) (2 ^ s)) = _; rw [k1]
    have g0 : g 0 = f 0 := by rw [hg]; rfl
    have g1 : g 1 = f 1 := by rw [hg]; rfl
    have g2 : g 2 = f 2 := by rw [hg]; rfl
    have g3 : g 3 = f 3 := by rw [hg]; rfl
    have g4 : g 4 = f 4 + 2 ^ s := by rw [hg]; rfl
    have g5 : g 5 = f 5 := by rw [hg]; rfl
    have g6 : g 6 = f 6 := by rw [hg]; rfl
    have g7 : g 7 = f 7 := by rw [hg]; rfl
    rw [g0, g1, g2, g3, g4, g5, g6, g7]
    refine ⟨?_, u0, u1, u2, u3, k2, u5, u6, u7⟩
    generalize (2 : Int) ^ s = S
    unfold val8 val4
    omega
  · rw [show (64 * (5 : Int).toNat) = 320 from rfl, show (2 : Int) ^ 320 = 2135987035920910082395021706169552114602704522356652769947041607822219725780640550022962086936576 from by decide +kernel] at hQ ⊢
    have hT : t * (2 ^ (s + 1) * 2135987035920910082395021706169552114602704522356652769947041607822219725780640550022962086936576) = t * 2 ^ (s + 1) * 2135987035920910082395021706169552114602704522356652769947041607822219725780640550022962086936576 := by grind
    rw [hT] at hQ
    have key : f 5 + 18446744073709551616 * (f 6 + f 7 * 18446744073709551616) = t * 2 ^ (s + 1) := by
      generalize t * 2 ^ (s + 1) = T at *
      unfold val8 val4 at hQ
      unfold U64 at *
      omega
    obtain ⟨k1, k2⟩ := orset hs u5 key
    have hg : g = updF f 5 (f 5 + 2 ^ s) := by show updF f 5 (bitI .or .u64 (f 5) (2 ^ s)) = _; rw [k1]
    have g0 : g 0 = f 0 := by rw [hg]; rfl
    have g1 : g 1 = f 1 := by rw [hg]; rfl
    have g2 : g 2 = f 2 := by rw [hg]; rfl
    have g3 : g 3 = f 3 := by rw [hg]; rfl
    have g4 : g 4 = f 4 := by rw [hg]; rfl
    have g5 : g 5 = f 5 + 2 ^ s := by rw [hg]; rfl
    have g6 : g 6 = f 6 := by rw [hg]; rfl
    have g7 : g 7 = f 7 := by rw [hg]; rfl
    rw [g0, g1, g2, g3, g4, g5, g6, g7]
    refine ⟨?_, u0, u1, u2, u3, u4, k2, u6, u7⟩
    generalize (2 : Int) ^ s = S
    unfold val8 val4
    omega
  · rw [show (64 * (6 : Int).toNat) = 384 from rfl, show (2 : Int) ^ 384 = 39402006196394479212279040100143613805079739270465446667948293404245721771497210611414266254884915640806627990306816 from by decide +kernel] at hQ ⊢
    have hT : t * (2 ^ (s + 1) * 39402006196394479212279040100143613805079739270465446667948293404245721771497210611414266254884915640806627990306816) = t * 2 ^ (s + 1) * 39402006196394479212279040100143613805079739270465446667948293404245721771497210611414266254884915640806627990306816 := by grind
    rw [hT] at hQ
    have key : f 6 + 18446744073709551616 * (f 7) = t * 2 ^ (s + 1) := by
      generalize t * 2 ^ (s + 1) = T at *
      unfold val8 val4 at hQ
      unfold U64 at *
      omega
    obtain ⟨k1, k2⟩ := orset hs u6 key
    have hg : g = updF f 6 (f 6 + 2 ^ s) := by show updF f 6 (bitI .or .u64 (f 6) (2 ^ s)) = _; rw [k1]
    have g0 : g 0 = f 0 := by rw [hg]; rfl
    have g1 : g 1 = f 1 := by rw [hg]; rfl
    have g2 : g 2 = f 2 := by rw [hg]; rfl
    have g3 : g 3 = f 3 := by rw [hg]; rfl
    have g4 : g 4 = f 4 := by rw [hg]; rfl
    have g5 : g 5 = f 5 := by rw [hg]; rfl
    have g6 : g 6 = f 6 + 2 ^ s := by rw [hg]; rfl
    have g7 : g 7 = f 7 := by rw [hg]; rfl
    rw [g0, g1, g2, g3, g4, g5, g6, g7]
    refine ⟨?_, u0, u1, u2, u3, u4, u5, k2, u7⟩
    generalize (2 : Int) ^ s = S
    unfold val8 val4
    omega
  · rw [show (64 * (7 : Int).toNat) = 448 from rfl, show (2 : Int) ^ 448 = 726838724295606890549323807888004534353641360687318060281490199180639288113397923326191050713763565560762521606266177933534601628614656 from by decide +kernel] at hQ ⊢
    have hT : t * (2 ^ (s + 1) * 726838724295606890549323807888004534353641360687318060281490199180639288113397923326191050713763565560762521606266177933534601628614656) = t * 2 ^ (s + 1) * 726838724295606890549323807888004534353641360687318060281490199180639288113397923326191050713763565560762521606266177933534601628614656 := by grind
    rw [hT] at hQ
    have key : f 7 + 18446744073709551616 * (0) = t * 2 ^ (s + 1) := by
      generalize t * 2 ^ (s + 1) = T at *
      unfold val8 val4 at hQ
      unfold U64 at *
      omega
    obtain ⟨k1, k2⟩ := orset hs u7 key
    have hg : g = updF f 7 (f 7 + 2 ^ s) := by show updF f 7 (bitI .or .u64 (f 7) (2 ^ s)) = _; rw [k1]
    have g0 : g 0 = f 0 := by rw [hg]; rfl
    have g1 : g 1 = f 1 := by rw [hg]; rfl
    have g2 : g 2 = f 2 := by rw [hg]; rfl
    have g3 : g 3 = f 3 := by rw [hg]; rfl
    have g4 : g 4 = f 4 := by rw [hg]; rfl
    have g5 : g 5 = f 5 := by rw [hg]; rfl
    have g6 : g 6 = f 6 := by rw [hg]; rfl
    have g7 : g 7 = f 7 + 2 ^ s := by rw [hg]; rfl
    rw [g0, g1, g2, g3, g4, g5, g6, g7]
    refine ⟨?_, u0, u1, u2, u3, u4, u5, u6, k2⟩
    generalize (2 : Int) ^ s = S
    unfold val8 val4
    omega
def rDivSpec : CSpec
  | [.agg [.int .u64 lo0, .int .u64 lo1, .int .u64 lo2, .int .u64 lo3], .agg [.int .u64 hi0, .int .u64 hi1, .int .u64 hi2, .int .u64 hi3], .agg [.int .u64 m0, .int .u64 m1, .int .u64 m2, .int .u64 m3]], k => ((U64 lo0.val) ∧ (U64 lo1.val) ∧ (U64 lo2.val) ∧ (U64 lo3.val) ∧ (U64 hi0.val) ∧ (U64 hi1.val) ∧ (U64 hi2.val) ∧ (U64 hi3.val) ∧ (U64 m0.val) ∧ (U64 m1.val) ∧ (U64 m2.val) ∧ (U64 m3.val)) ∧ (∀ r0 : Int, r0 = (qF (val4 lo0.val lo1.val lo2.val lo3.val) (val4 hi0.val hi1.val hi2.val hi3.val) (val4 m0.val m1.val m2.val m3.val)) → ∀ r1 : Int, r1 = (qF (val4 lo0.val lo1.val lo2.val lo3.val) (val4 hi0.val hi1.val hi2.val hi3.val) (val4 m0.val m1.val m2.val m3.val) / 115792089237316195423570985008687907853269984665640564039457584007913129639936) → ∀ r2 : Int, r2 = (rF (val4 lo0.val lo1.val lo2.val lo3.val) (val4 hi0.val hi1.val hi2.val hi3.val) (val4 m0.val m1.val m2.val m3.val)) → ∀ r3 : Int, r3 = ((if (val4 m0.val m1.val m2.val m3.val) = 0 then 13 else 0)) → k (.tup [.agg [.int .u64 (.sym (limb r0 0)), .int .u64 (.sym (limb r0 1)), .int .u64 (.sym (limb r0 2)), .int .u64 (.sym (limb r0 3))], .agg [.int .u64 (.sym (limb r1 0)), .int .u64 (.sym (limb r1 1)), .int .u64 (.sym (limb r1 2)), .int .u64 (.sym (limb r1 3))], .agg [.int .u64 (.sym (limb r2 0)), .int .u64 (.sym (limb r2 1)), .int .u64 (.sym (limb r2 2)), .int .u64 (.sym (limb r2 3))], .int .i64 (.sym r3)]))
  | _, _ => False
@[simp] abbrev GRDiv1 (y0 : Int) : Prop := y0 = y0 ∧ y0 = y0 ∧ y0 = y0 ∧ y0 = y0 ∧ True
@[simp] abbrev GRDiv2 (y0 y1 y2 y3 : Int) : Prop := y0 = y0 ∧ y1 = y1 ∧ y2 = y2 ∧ y3 = y3 ∧ True
@[simp] abbrev ERDiv (y : Int) : Prop := y = y
def VCRDiv (lo0 : Int) (lo1 : Int) (lo2 : Int) (lo3 : Int) (hi0 : Int) (hi1 : Int) (hi2 : Int) (hi3 : Int) (m0 : Int) (m1 : Int) (m2 : Int) (m3 : Int) : Prop :=
  ∀ v1, v1 = (m0 == (0 : Int) && (m1 == (0 : Int) && (m2 == (0 : Int) && (m3 == (0 : Int) && true)))) -> (v1 = true -> ((IntKind.u64 = IntKind.u64 /\ 0 = limb (qF (val4 lo0 lo1 lo2 lo3) (val4 hi0 hi1 hi2 hi3) (val4 m0 m1 m2 m3)) 0) /\ (IntKind.u64 = IntKind.u64 /\ 0 = limb (qF (val4 lo0 lo1 lo2 lo3) (val4 hi0 hi1 hi2 hi3) (val4 m0 m1 m2 m3)) 1) /\ (IntKind.u64 = IntKind.u64 /\ 0 = limb (qF (val4 lo0 lo1 lo2 lo3) (val4 hi0 hi1 hi2 hi3) (val4 m0 m1 m2 m3)) 2) /\ (IntKind.u64 = IntKind.u64 /\ 0 = limb (qF (val4 lo0 lo1 lo2 lo3) (val4 hi0 hi1 hi2 hi3) (val4 m0 m1 m2 m3)) 3) /\ True) /\ ((IntKind.u64 = IntKind.u64 /\ 0 = limb (qF (val4 lo0 lo1 lo2 lo3) (val4 hi0 hi1 hi2 hi3) (val4 m0 m1 m2 m3) / (115792089237316195423570985008687907853269984665640564039457584007913129639936 : Int)) 0) /\ (IntKind.u64 = IntKind.u64 /\ 0 = limb (qF (val4 lo0 lo1 lo2 lo3) (val4 hi0 hi1 hi2 hi3) (val4 m0 m1 m2 m3) / (115792089237316195423570985008687907853269984665640564039457584007913129639936 : Int)) 1) /\ (IntKind.u64 = IntKind.u64 /\ 0 = limb (qF (val4 lo0 lo1 lo2 lo3) (val4 hi0 hi1 hi2 hi3) (val4 m0 m1 m2 m3) / (115792089237316195423570985008687907853269984665640564039457584007913129639936 : Int)) 2) /\ (IntKind.u64 = IntKind.u64 /\ 0 = limb (qF (val4 lo0 lo1 lo2 lo3) (val4 hi0 hi1 hi2 hi3) (val4 m0 m1 m2 m3) / (115792089237316195423570985008687907853269984665640564039457584007913129639936 : Int)) 3) /\ True) /\ ((IntKind.u64 = IntKind.u64 /\ 0 = limb (rF (val4 lo0 lo1 lo2 lo3) (val4 hi0 hi1 hi2 hi3) (val4 m0 m1 m2 m3)) 0) /\ (IntKind.u64 = IntKind.u64 /\ 0 = limb (rF (val4 lo0 lo1 lo2 lo3) (val4 hi0 hi1 hi2 hi3) (val4 m0 m1 m2 m3)) 1) /\ (IntKind.u64 = IntKind.u64 /\ 0 = limb (rF (val4 lo0 lo1 lo2 lo3) (val4 hi0 hi1 hi2 hi3) (val4 m0 m1 m2 m3)) 2) /\ (IntKind.u64 = IntKind.u64 /\ 0 = limb (rF (val4 lo0 lo1 lo2 lo3) (val4 hi0 hi1 hi2 hi3) (val4 m0 m1 m2 m3)) 3) /\ True) /\ (IntKind.i64 = IntKind.i64 /\ (13 : Int) = if val4 m0 m1 m2 m3 = (0 : Int) then (13 : Int) else (0 : Int)) /\ True) /\ (v1 = false -> (∃ (x2 : Int × (Nat -> Int) × (Int -> Int)), rdInv (val8 lo0 lo1 lo2 lo3 hi0 hi1 hi2 hi3) (val4 m0 m1 m2 m3) x2.fst (x2.snd.fst 0) (x2.snd.fst 1) (x2.snd.fst 2) (x2.snd.fst 3) (x2.snd.snd (0 : Int)) (x2.snd.snd (1 : Int)) (x2.snd.snd (2 : Int)) (x2.snd.snd (3 : Int)) (x2.snd.snd (4 : Int)) (x2.snd.snd (5 : Int)) (x2.snd.snd (6 : Int)) (x2.snd.snd (7 : Int)) /\ (True /\ True /\ True /\ True /\ True /\ True /\ ERDiv 0 /\ True /\ True /\ (511 : Int) = x2.fst /\ True) /\ (GRDiv2 lo0 lo1 lo2 lo3) /\ (GRDiv2 hi0 hi1 hi2 hi3) /\ (GRDiv2 m0 m1 m2 m3) /\ (GRDiv1 0) /\ (GRDiv1 0) /\ (GRDiv1 0) /\ ((0 : Int) = x2.snd.fst 0 /\ (0 : Int) = x2.snd.fst 1 /\ (0 : Int) = x2.snd.fst 2 /\ (0 : Int) = x2.snd.fst 3 /\ True) /\ ((8 : Int) * (1 : Int) = (8 : Int) /\ (0 : Int) = x2.snd.snd (0 : Int) /\ (0 : Int) = x2.snd.snd (1 : Int) /\ (0 : Int) = x2.snd.snd (2 : Int) /\ (0 : Int) = x2.snd.snd (3 : Int) /\ (0 : Int) = x2.snd.snd (4 : Int) /\ (0 : Int) = x2.snd.snd (5 : Int) /\ (0 : Int) = x2.snd.snd (6 : Int) /\ (0 : Int) = x2.snd.snd (7 : Int) /\ True) /\ True) /\ ∀ (v3 : Int × (Nat -> Int) × (Int -> Int)), rdInv (val8 lo0 lo1 lo2 lo3 hi0 hi1 hi2 hi3) (val4 m0 m1 m2 m3) v3.fst (v3.snd.fst 0) (v3.snd.fst 1) (v3.snd.fst 2) (v3.snd.fst 3) (v3.snd.snd (0 : Int)) (v3.snd.snd (1 : Int)) (v3.snd.snd (2 : Int)) (v3.snd.snd (3 : Int)) (v3.snd.snd (4 : Int)) (v3.snd.snd (5 : Int)) (v3.snd.snd (6 : Int)) (v3.snd.snd (7 : Int)) -> ∀ v4, v4 = decide (v3.fst ≥ (0 : Int)) -> (v4 = true -> (U64 (v3.snd.fst 0) /\ U64 (v3.snd.fst 1) /\ U64 (v3.snd.fst 2) /\ U64 (v3.snd.fst 3) /\ I64 (255 : Int)) /\ ∀ v5, v5 = bitF (val4 (v3.snd.fst 0) (v3.snd.fst 1) (v3.snd.fst 2) (v3.snd.fst 3)) (255 : Int) -> (U64 (v3.snd.fst 0) /\ U64 (v3.snd.fst 1) /\ U64 (v3.snd.fst 2) /\ U64 (v3.snd.fst 3) /\ U64 (v3.snd.fst 0) /\ U64 (v3.snd.fst 1) /\ U64 (v3.snd.fst 2) /\ U64 (v3.snd.fst 3)) /\ ∀ v6, v6 = val4 (v3.snd.fst 0) (v3.snd.fst 1) (v3.snd.fst 2) (v3.snd.fst 3) + val4 (v3.snd.fst 0) (v3.snd.fst 1) (v3.snd.fst 2) (v3.snd.fst 3) -> ∀ v7, v7 = (val4 (v3.snd.fst 0) (v3.snd.fst 1) (v3.snd.fst 2) (v3.snd.fst 3) + val4 (v3.snd.fst 0) (v3.snd.fst 1) (v3.snd.fst 2) (v3.snd.fst 3)) / (115792089237316195423570985008687907853269984665640564039457584007913129639936 : Int) -> ∀ v8, v8 = decide (v3.fst ≥ (256 : Int)) -> ((v8 = true -> ∀ v9, v9 = IntKind.i64.wrap (v3.fst - (256 : Int)) -> (U64 hi0 /\ U64 hi1 /\ U64 hi2 /\ U64 hi3 /\ I64 v9) /\ ∀ v10, v10 = bitF (val4 hi0 hi1 hi2 hi3) v9 -> ∀ v11, v11 = bitI BinOp.or IntKind.u64 (limb v6 0) v10 -> ∃ (x12 : Int), x12 = limb v6 0 + bitW (val8 lo0 lo1 lo2 lo3 hi0 hi1 hi2 hi3) v3.fst /\ (True /\ True /\ True /\ True /\ True /\ True /\ ERDiv 0 /\ True /\ True /\ ERDiv v3.fst /\ ERDiv v5 /\ True) /\ (GRDiv2 lo0 lo1 lo2 lo3) /\ (GRDiv2 hi0 hi1 hi2 hi3) /\ (GRDiv2 m0 m1 m2 m3) /\ (GRDiv1 0) /\ (GRDiv1 0) /\ (GRDiv1 0) /\ (v11 = x12 /\ limb v6 1 = limb v6 1 /\ limb v6 2 = limb v6 2 /\ limb v6 3 = limb v6 3 /\ True) /\ (ERDiv 8 /\ (∀ (v13 : Int), (0 : Int) ≤ v13 -> v13 < (8 : Int) -> v3.snd.snd v13 = v3.snd.snd v13) /\ True) /\ True) /\ (v8 = false -> (U64 lo0 /\ U64 lo1 /\ U64 lo2 /\ U64 lo3 /\ I64 v3.fst) /\ ∀ v14, v14 = bitF (val4 lo0 lo1 lo2 lo3) v3.fst -> ∀ v15, v15 = bitI BinOp.or IntKind.u64 (limb v6 0) v14 -> ∃ (x16 : Int), x16 = limb v6 0 + bitW (val8 lo0 lo1 lo2 lo3 hi0 hi1 hi2 hi3) v3.fst /\ (True /\ True /\ True /\ True /\ True /\ True /\ ERDiv 0 /\ True /\ True /\ ERDiv v3.fst /\ ERDiv v5 /\ True) /\ (GRDiv2 lo0 lo1 lo2 lo3) /\ (GRDiv2 hi0 hi1 hi2 hi3) /\ (GRDiv2 m0 m1 m2 m3) /\ (GRDiv1 0) /\ (GRDiv1 0) /\ (GRDiv1 0) /\ (v15 = x16 /\ limb v6 1 = limb v6 1 /\ limb v6 2 = limb v6 2 /\ limb v6 3 = limb v6 3 /\ True) /\ (ERDiv 8 /\ (∀ (v17 : Int), (0 : Int) ≤ v17 -> v17 < (8 : Int) -> v3.snd.snd v17 = v3.snd.snd v17) /\ True) /\ True)) /\ ∀ v18, v18 = limb v6 0 + bitW (val8 lo0 lo1 lo2 lo3 hi0 hi1 hi2 hi3) v3.fst -> ∀ v19, v19 = (v5 == (1 : Int)) -> (v19 = false -> (U64 v18 /\ U64 (limb v6 1) /\ U64 (limb v6 2) /\ U64 (limb v6 3) /\ U64 m0 /\ U64 m1 /\ U64 m2 /\ U64 m3) /\ ∀ v20, v20 = cmpF (val4 v18 (limb v6 1) (limb v6 2) (limb v6 3)) (val4 m0 m1 m2 m3) -> ∀ v21, v21 = decide (v20 ≥ (0 : Int)) -> (v21 = true -> (U64 v18 /\ U64 (limb v6 1) /\ U64 (limb v6 2) /\ U64 (limb v6 3) /\ U64 m0 /\ U64 m1 /\ U64 m2 /\ U64 m3) /\ ∀ v22, v22 = val4 v18 (limb v6 1) (limb v6 2) (limb v6 3) - val4 m0 m1 m2 m3 -> ∀ (v23 : Int), (v23 = if val4 v18 (limb v6 1) (limb v6 2) (limb v6 3) < val4 m0 m1 m2 m3 then 1 else 0) -> ∀ v24, v24 = v3.fst.tmod (256 : Int) -> ∀ v25, v25 = IntKind.i64.wrap (v3.fst.tdiv (256 : Int)) -> ∀ v26, v26 = IntKind.i64.wrap (v24.tdiv (64 : Int)) -> ∀ v27, v27 = IntKind.i64.wrap (v3.fst.tdiv (256 : Int)) -> ∀ v28, v28 = IntKind.i64.wrap (v24.tdiv (64 : Int)) -> ((0 : Int) ≤ v27 /\ v27 < (2 : Int)) /\ ∀ (v29 : Int), v29 = (0 : Int) + v27 * (4 : Int) -> ((0 : Int) ≤ v29 /\ (0 : Int) ≤ v28 /\ v28 < (4 : Int)) /\ ∀ v30, v30 = v29 + v28 * (1 : Int) -> ((0 : Int) ≤ v30 /\ v30 < (8 : Int)) /\ ∀ v31, v31 = v3.snd.snd v30 -> ∀ v32, v32 = v24.tmod (64 : Int) -> decide ((0 : Int) ≤ v32) = true /\ ∀ v33, v33 = shlI IntKind.u64 (1 : Int) v32 -> ∀ v34, v34 = bitI BinOp.or IntKind.u64 v31 v33 -> ((0 : Int) ≤ v25 /\ v25 < (2 : Int)) /\ ∀ (v35 : Int), v35 = (0 : Int) + v25 * (4 : Int) -> ((0 : Int) ≤ v35 /\ (0 : Int) ≤ v26 /\ v26 < (4 : Int)) /\ ∀ v36, v36 = v35 + v26 * (1 : Int) -> ((0 : Int) ≤ v36 /\ v36 + (1 : Int) ≤ (8 : Int)) /\ ∀ (v37 : Int -> Int), v37 = updF v3.snd.snd v36 v34 -> ∀ v38, v38 = IntKind.i64.wrap (v3.fst - (1 : Int)) -> ∃ (x39 : Int × (Nat -> Int) × (Int -> Int)), rdInv (val8 lo0 lo1 lo2 lo3 hi0 hi1 hi2 hi3) (val4 m0 m1 m2 m3) x39.fst (x39.snd.fst 0) (x39.snd.fst 1) (x39.snd.fst 2) (x39.snd.fst 3) (x39.snd.snd (0 : Int)) (x39.snd.snd (1 : Int)) (x39.snd.snd (2 : Int)) (x39.snd.snd (3 : Int)) (x39.snd.snd (4 : Int)) (x39.snd.snd (5 : Int)) (x39.snd.snd (6 : Int)) (x39.snd.snd (7 : Int)) /\ ((True /\ True /\ True /\ True /\ True /\ True /\ ERDiv 0 /\ True /\ True /\ v38 = x39.fst /\ True) /\ (GRDiv2 lo0 lo1 lo2 lo3) /\ (GRDiv2 hi0 hi1 hi2 hi3) /\ (GRDiv2 m0 m1 m2 m3) /\ (GRDiv1 0) /\ (GRDiv1 0) /\ (GRDiv1 0) /\ (limb v22 0 = x39.snd.fst 0 /\ limb v22 1 = x39.snd.fst 1 /\ limb v22 2 = x39.snd.fst 2 /\ limb v22 3 = x39.snd.fst 3 /\ True) /\ (ERDiv 8 /\ (∀ (v40 : Int), (0 : Int) ≤ v40 -> v40 < (8 : Int) -> v37 v40 = x39.snd.snd v40) /\ True) /\ True) /\ (x39.fst + (1 : Int)).toNat < (v3.fst + (1 : Int)).toNat) /\ (v21 = false -> ∀ v41, v41 = IntKind.i64.wrap (v3.fst - (1 : Int)) -> ∃ (x42 : Int × (Nat -> Int) × (Int -> Int)), rdInv (val8 lo0 lo1 lo2 lo3 hi0 hi1 hi2 hi3) (val4 m0 m1 m2 m3) x42.fst (x42.snd.fst 0) (x42.snd.fst 1) (x42.snd.fst 2) (x42.snd.fst 3) (x42.snd.snd (0 : Int)) (x42.snd.snd (1 : Int)) (x42.snd.snd (2 : Int)) (x42.snd.snd (3 : Int)) (x42.snd.snd (4 : Int)) (x42.snd.snd (5 : Int)) (x42.snd.snd (6 : Int)) (x42.snd.snd (7 : Int)) /\ ((True /\ True /\ True /\ True /\ True /\ True /\ ERDiv 0 /\ True /\ True /\ v41 = x42.fst /\ True) /\ (GRDiv2 lo0 lo1 lo2 lo3) /\ (GRDiv2 hi0 hi1 hi2 hi3) /\ (GRDiv2 m0 m1 m2 m3) /\ (GRDiv1 0) /\ (GRDiv1 0) /\ (GRDiv1 0) /\ (v18 = x42.snd.fst 0 /\ limb v6 1 = x42.snd.fst 1 /\ limb v6 2 = x42.snd.fst 2 /\ limb v6 3 = x42.snd.fst 3 /\ True) /\ (ERDiv 8 /\ (∀ (v43 : Int), (0 : Int) ≤ v43 -> v43 < (8 : Int) -> v3.snd.snd v43 = x42.snd.snd v43) /\ True) /\ True) /\ (x42.fst + (1 : Int)).toNat < (v3.fst + (1 : Int)).toNat)) /\ (v19 = true -> (U64 v18 /\ U64 (limb v6 1) /\ U64 (limb v6 2) /\ U64 (limb v6 3) /\ U64 m0 /\ U64 m1 /\ U64 m2 /\ U64 m3) /\ ∀ v44, v44 = val4 v18 (limb v6 1) (limb v6 2) (limb v6 3) - val4 m0 m1 m2 m3 -> ∀ (v45 : Int), (v45 = if val4 v18 (limb v6 1) (limb v6 2) (limb v6 3) < val4 m0 m1 m2 m3 then 1 else 0) -> ∀ v46, v46 = v3.fst.tmod (256 : Int) -> ∀ v47, v47 = IntKind.i64.wrap (v3.fst.tdiv (256 : Int)) -> ∀ v48, v48 = IntKind.i64.wrap (v46.tdiv (64 : Int)) -> ∀ v49, v49 = IntKind.i64.wrap (v3.fst.tdiv (256 : Int)) -> ∀ v50, v50 = IntKind.i64.wrap (v46.tdiv (64 : Int)) -> ((0 : Int) ≤ v49 /\ v49 < (2 : Int)) /\ ∀ (v51 : Int), v51 = (0 : Int) + v49 * (4 : Int) -> ((0 : Int) ≤ v51 /\ (0 : Int) ≤ v50 /\ v50 < (4 : Int)) /\ ∀ v52, v52 = v51 + v50 * (1 : Int) -> ((0 : Int) ≤ v52 /\ v52 < (8 : Int)) /\ ∀ v53, v53 = v3.snd.snd v52 -> ∀ v54, v54 = v46.tmod (64 : Int) -> decide ((0 : Int) ≤ v54) = true /\ ∀ v55, v55 = shlI IntKind.u64 (1 : Int) v54 -> ∀ v56, v56 = bitI BinOp.or IntKind.u64 v53 v55 -> ((0 : Int) ≤ v47 /\ v47 < (2 : Int)) /\ ∀ (v57 : Int), v57 = (0 : Int) + v47 * (4 : Int) -> ((0 : Int) ≤ v57 /\ (0 : Int) ≤ v48 /\ v48 < (4 : Int)) /\ ∀ v58, v58 = v57 + v48 * (1 : Int) -> ((0 : Int) ≤ v58 /\ v58 + (1 : Int) ≤ (8 : Int)) /\ ∀ (v59 : Int -> Int), v59 = updF v3.snd.snd v58 v56 -> ∀ v60, v60 = IntKind.i64.wrap (v3.fst - (1 : Int)) -> ∃ (x61 : Int × (Nat -> Int) × (Int -> Int)), rdInv (val8 lo0 lo1 lo2 lo3 hi0 hi1 hi2 hi3) (val4 m0 m1 m2 m3) x61.fst (x61.snd.fst 0) (x61.snd.fst 1) (x61.snd.fst 2) (x61.snd.fst 3) (x61.snd.snd (0 : Int)) (x61.snd.snd (1 : Int)) (x61.snd.snd (2 : Int)) (x61.snd.snd (3 : Int)) (x61.snd.snd (4 : Int)) (x61.snd.snd (5 : Int)) (x61.snd.snd (6 : Int)) (x61.snd.snd (7 : Int)) /\ ((True /\ True /\ True /\ True /\ True /\ True /\ ERDiv 0 /\ True /\ True /\ v60 = x61.fst /\ True) /\ (GRDiv2 lo0 lo1 lo2 lo3) /\ (GRDiv2 hi0 hi1 hi2 hi3) /\ (GRDiv2 m0 m1 m2 m3) /\ (GRDiv1 0) /\ (GRDiv1 0) /\ (GRDiv1 0) /\ (limb v44 0 = x61.snd.fst 0 /\ limb v44 1 = x61.snd.fst 1 /\ limb v44 2 = x61.snd.fst 2 /\ limb v44 3 = x61.snd.fst 3 /\ True) /\ (ERDiv 8 /\ (∀ (v62 : Int), (0 : Int) ≤ v62 -> v62 < (8 : Int) -> v59 v62 = x61.snd.snd v62) /\ True) /\ True) /\ (x61.fst + (1 : Int)).toNat < (v3.fst + (1 : Int)).toNat)) /\ (v4 = false -> (4 : Int) ≤ (8 : Int) /\ ∀ v63, v63 = v3.snd.snd (0 : Int) -> ∀ v64, v64 = v3.snd.snd ((0 : Int) + (1 : Int)) -> ∀ v65, v65 = v3.snd.snd ((0 : Int) + (1 : Int) + (1 : Int)) -> ∀ v66, v66 = v3.snd.snd ((0 : Int) + (1 : Int) + (1 : Int) + (1 : Int)) -> (8 : Int) ≤ (8 : Int) /\ ∀ v67, v67 = v3.snd.snd (4 : Int) -> ∀ v68, v68 = v3.snd.snd ((4 : Int) + (1 : Int)) -> ∀ v69, v69 = v3.snd.snd ((4 : Int) + (1 : Int) + (1 : Int)) -> ∀ v70, v70 = v3.snd.snd ((4 : Int) + (1 : Int) + (1 : Int) + (1 : Int)) -> ((IntKind.u64 = IntKind.u64 /\ v63 = limb (qF (val4 lo0 lo1 lo2 lo3) (val4 hi0 hi1 hi2 hi3) (val4 m0 m1 m2 m3)) 0) /\ (IntKind.u64 = IntKind.u64 /\ v64 = limb (qF (val4 lo0 lo1 lo2 lo3) (val4 hi0 hi1 hi2 hi3) (val4 m0 m1 m2 m3)) 1) /\ (IntKind.u64 = IntKind.u64 /\ v65 = limb (qF (val4 lo0 lo1 lo2 lo3) (val4 hi0 hi1 hi2 hi3) (val4 m0 m1 m2 m3)) 2) /\ (IntKind.u64 = IntKind.u64 /\ v66 = limb (qF (val4 lo0 lo1 lo2 lo3) (val4 hi0 hi1 hi2 hi3) (val4 m0 m1 m2 m3)) 3) /\ True) /\ ((IntKind.u64 = IntKind.u64 /\ v67 = limb (qF (val4 lo0 lo1 lo2 lo3) (val4 hi0 hi1 hi2 hi3) (val4 m0 m1 m2 m3) / (115792089237316195423570985008687907853269984665640564039457584007913129639936 : Int)) 0) /\ (IntKind.u64 = IntKind.u64 /\ v68 = limb (qF (val4 lo0 lo1 lo2 lo3) (val4 hi0 hi1 hi2 hi3) (val4 m0 m1 m2 m3) / (115792089237316195423570985008687907853269984665640564039457584007913129639936 : Int)) 1) /\ (IntKind.u64 = IntKind.u64 /\ v69 = limb (qF (val4 lo0 lo1 lo2 lo3) (val4 hi0 hi1 hi2 hi3) (val4 m0 m1 m2 m3) / (115792089237316195423570985008687907853269984665640564039457584007913129639936 : Int)) 2) /\ (IntKind.u64 = IntKind.u64 /\ v70 = limb (qF (val4 lo0 lo1 lo2 lo3) (val4 hi0 hi1 hi2 hi3) (val4 m0 m1 m2 m3) / (115792089237316195423570985008687907853269984665640564039457584007913129639936 : Int)) 3) /\ True) /\ ((IntKind.u64 = IntKind.u64 /\ v3.snd.fst 0 = limb (rF (val4 lo0 lo1 lo2 lo3) (val4 hi0 hi1 hi2 hi3) (val4 m0 m1 m2 m3)) 0) /\ (IntKind.u64 = IntKind.u64 /\ v3.snd.fst 1 = limb (rF (val4 lo0 lo1 lo2 lo3) (val4 hi0 hi1 hi2 hi3) (val4 m0 m1 m2 m3)) 1) /\ (IntKind.u64 = IntKind.u64 /\ v3.snd.fst 2 = limb (rF (val4 lo0 lo1 lo2 lo3) (val4 hi0 hi1 hi2 hi3) (val4 m0 m1 m2 m3)) 2) /\ (IntKind.u64 = IntKind.u64 /\ v3.snd.fst 3 = limb (rF (val4 lo0 lo1 lo2 lo3) (val4 hi0 hi1 hi2 hi3) (val4 m0 m1 m2 m3)) 3) /\ True) /\ (IntKind.i64 = IntKind.i64 /\ (0 : Int) = if val4 m0 m1 m2 m3 = (0 : Int) then (13 : Int) else (0 : Int)) /\ True))
theorem tieRDiv (w0 : World) (lo0 : Int) (lo1 : Int) (lo2 : Int) (lo3 : Int) (hi0 : Int) (hi1 : Int) (hi2 : Int) (hi3 : Int) (m0 : Int) (m1 : Int) (m2 : Int) (m3 : Int) : VCRDiv lo0 lo1 lo2 lo3 hi0 hi1 hi2 hi3 m0 m1 m2 m3 = ((recN (GL Tryd.prog rdSpec rdAnnSpec rdCutSpec w0) 40).call 9 [.agg [.int .u64 (.sym lo0), .int .u64 (.sym lo1), .int .u64 (.sym lo2), .int .u64 (.sym lo3)], .agg [.int .u64 (.sym hi0), .int .u64 (.sym hi1), .int .u64 (.sym hi2), .int .u64 (.sym hi3)], .agg [.int .u64 (.sym m0), .int .u64 (.sym m1), .int .u64 (.sym m2), .int .u64 (.sym m3)]] [] (fun r__ _ => eqV r__ (.tup [.agg [.int .u64 (.sym (limb (qF (val4 lo0 lo1 lo2 lo3) (val4 hi0 hi1 hi2 hi3) (val4 m0 m1 m2 m3)) 0)), .int .u64 (.sym (limb (qF (val4 lo0 lo1 lo2 lo3) (val4 hi0 hi1 hi2 hi3) (val4 m0 m1 m2 m3)) 1)), .int .u64 (.sym (limb (qF (val4 lo0 lo1 lo2 lo3) (val4 hi0 hi1 hi2 hi3) (val4 m0 m1 m2 m3)) 2)), .int .u64 (.sym (limb (qF (val4 lo0 lo1 lo2 lo3) (val4 hi0 hi1 hi2 hi3) (val4 m0 m1 m2 m3)) 3))], .agg [.int .u64 (.sym (limb (qF (val4 lo0 lo1 lo2 lo3) (val4 hi0 hi1 hi2 hi3) (val4 m0 m1 m2 m3) / 115792089237316195423570985008687907853269984665640564039457584007913129639936) 0)), .int .u64 (.sym (limb (qF (val4 lo0 lo1 lo2 lo3) (val4 hi0 hi1 hi2 hi3) (val4 m0 m1 m2 m3) / 115792089237316195423570985008687907853269984665640564039457584007913129639936) 1)), .int .u64 (.sym (limb (qF (val4 lo0 lo1 lo2 lo3) (val4 hi0 hi1 hi2 hi3) (val4 m0 m1 m2 m3) / 115792089237316195423570985008687907853269984665640564039457584007913129639936) 2)), .int .u64 (.sym (limb (qF (val4 lo0 lo1 lo2 lo3) (val4 hi0 hi1 hi2 hi3) (val4 m0 m1 m2 m3) / 115792089237316195423570985008687907853269984665640564039457584007913129639936) 3))], .agg [.int .u64 (.sym (limb (rF (val4 lo0 lo1 lo2 lo3) (val4 hi0 hi1 hi2 hi3) (val4 m0 m1 m2 m3)) 0)), .int .u64 (.sym (limb (rF (val4 lo0 lo1 lo2 lo3) (val4 hi0 hi1 hi2 hi3) (val4 m0 m1 m2 m3)) 1)), .int .u64 (.sym (limb (rF (val4 lo0 lo1 lo2 lo3) (val4 hi0 hi1 hi2 hi3) (val4 m0 m1 m2 m3)) 2)), .int .u64 (.sym (limb (rF (val4 lo0 lo1 lo2 lo3) (val4 hi0 hi1 hi2 hi3) (val4 m0 m1 m2 m3)) 3))], .int .i64 (.sym ((if (val4 m0 m1 m2 m3) = 0 then 13 else 0)))]))) := by kernel_rfl
theorem idx_parts {i : Int} (h0 : 0 ≤ i) (h1 : i < 512) : ∀ v24 : Int, v24 = i.tmod 256 → ∀ v25, v25 = IntKind.i64.wrap (i.tdiv 256) → ∀ v26, v26 = IntKind.i64.wrap (v24.tdiv 64) →
    v25 * 4 + v26 * 1 = i / 64 ∧ v24.tmod 64 = i % 64 ∧ (0 ≤ v25 ∧ v25 < 2) ∧ (0 ≤ v26 ∧ v26 < 4) := by
  intro v24 e24 v25 e25 v26 e26
  rw [tmod_nonneg h0] at e24
  rw [tdiv_nonneg h0, i64_id (by omega) (by omega)] at e25
  rw [tdiv_nonneg (by omega), i64_id (by omega) (by omega)] at e26
  rw [tmod_nonneg (by omega)]
  omega
theorem rd_low {v18 v6 b x : Int} (h6 : v6 = x + x) (hx : 0 ≤ x ∧ x < 115792089237316195423570985008687907853269984665640564039457584007913129639936) (hb : 0 ≤ b ∧ b ≤ 1) (h : v18 = limb v6 0 + b) :
    bitI .or .u64 (limb v6 0) b = v18 ∧ U64 v18 ∧ val4 v18 (limb v6 1) (limb v6 2) (limb v6 3) = (2 * x + b) % 115792089237316195423570985008687907853269984665640564039457584007913129639936 := by
  obtain ⟨e0, e1, e2, e3⟩ := limbE v6
  have hv := val4_limb v6
  have l0 := limb_in v6 0
  have ev : limb v6 0 % 2 = 0 := by omega
  have e : bitI .or .u64 (limb v6 0) b = limb v6 0 + b := by
    have : limb v6 0 = (limb v6 0 / 2) * 2 ^ (1 : Nat) := by
      rw [show (2 : Int) ^ (1 : Nat) = 2 from rfl]; omega
    rw [this]
    refine or_parts_u64 (n := 1) (by omega) (by omega) ?_ ?_ ?_ (by omega)
    all_goals rw [show (2 : Int) ^ (1 : Nat) = 2 from rfl]
    all_goals omega
  refine ⟨by rw [e, h], by unfold U64; omega, ?_⟩
  unfold val4 at hv ⊢
  omega
set_option maxHeartbeats 2000000 in
theorem pureRDiv (lo0 lo1 lo2 lo3 hi0 hi1 hi2 hi3 m0 m1 m2 m3 : Int) (h : U64 lo0 ∧ U64 lo1 ∧ U64 lo2 ∧ U64 lo3 ∧ U64 hi0 ∧ U64 hi1 ∧ U64 hi2 ∧ U64 hi3 ∧ U64 m0 ∧ U64 m1 ∧ U64 m2 ∧ U64 m3) : VCRDiv lo0 lo1 lo2 lo3 hi0 hi1 hi2 hi3 m0 m1 m2 m3 := by
  obtain ⟨hl0, hl1, hl2, hl3, hh0, hh1, hh2, hh3, hm0, hm1, hm2, hm3⟩ := h
  have bm := val4_lt hm0 hm1 hm2 hm3
  have bl := val4_lt hl0 hl1 hl2 hl3
  have bh := val4_lt hh0 hh1 hh2 hh3
  have n0 : U64 (0 : Int) := by unfold U64; omega
  have e512 : (2 : Int) ^ (512 : Nat) = 115792089237316195423570985008687907853269984665640564039457584007913129639936 * 115792089237316195423570985008687907853269984665640564039457584007913129639936 := by decide +kernel
  have hN : val8 lo0 lo1 lo2 lo3 hi0 hi1 hi2 hi3 = val4 hi0 hi1 hi2 hi3 * 115792089237316195423570985008687907853269984665640564039457584007913129639936 + val4 lo0 lo1 lo2 lo3 := by unfold val8; omega
  have nN : 0 ≤ val8 lo0 lo1 lo2 lo3 hi0 hi1 hi2 hi3 ∧ val8 lo0 lo1 lo2 lo3 hi0 hi1 hi2 hi3 < 2 ^ (512 : Nat) := by
    rw [hN, e512]; omega
  intro v1 h1
  rw [eq4 hm0 hm1 hm2 hm3 n0 n0 n0 n0] at h1
  refine br (fun e => ?_) (fun e => ?_) v1 h1
  · have hM : val4 m0 m1 m2 m3 = 0 := e
    have q0 : qF (val4 lo0 lo1 lo2 lo3) (val4 hi0 hi1 hi2 hi3) (val4 m0 m1 m2 m3) = 0 := by unfold qF; rw [if_pos hM]
    have r0 : rF (val4 lo0 lo1 lo2 lo3) (val4 hi0 hi1 hi2 hi3) (val4 m0 m1 m2 m3) = 0 := by unfold rF; rw [if_pos hM]
    rw [q0, r0]
    simp [limb, hM]
  have hM : val4 m0 m1 m2 m3 ≠ 0 := e
  have hM0 : 0 < val4 m0 m1 m2 m3 := by omega
  refine ⟨⟨(511, fun _ => 0, fun _ => 0), ⟨by simp only; omega, ⟨?_, ?_⟩, ⟨n0, n0, n0, n0⟩, n0, n0, n0, n0, n0, n0, n0, n0⟩, ⟨trivial, trivial, trivial, trivial, trivial, trivial, rfl, trivial, trivial, rfl, trivial⟩, ⟨rfl, rfl, rfl, rfl, trivial⟩, ⟨rfl, rfl, rfl, rfl, trivial⟩, ⟨rfl, rfl, rfl, rfl, trivial⟩, ⟨rfl, rfl, rfl, rfl, trivial⟩, ⟨rfl, rfl, rfl, rfl, trivial⟩, ⟨rfl, rfl, rfl, rfl, trivial⟩, ⟨rfl, rfl, rfl, rfl, trivial⟩, ⟨by decide, rfl, rfl, rfl, rfl, rfl, rfl, rfl, rfl, trivial⟩, trivial⟩, ?_⟩
  · show val4 0 0 0 0 = val8 lo0 lo1 lo2 lo3 hi0 hi1 hi2 hi3 / 2 ^ (512 : Nat) % val4 m0 m1 m2 m3
    rw [Int.ediv_eq_zero_of_lt nN.1 nN.2]; rfl
  · show val8 0 0 0 0 0 0 0 0 = val8 lo0 lo1 lo2 lo3 hi0 hi1 hi2 hi3 / 2 ^ (512 : Nat) / val4 m0 m1 m2 m3 * 2 ^ (512 : Nat)
    rw [Int.ediv_eq_zero_of_lt nN.1 nN.2, Int.zero_ediv, Int.zero_mul]; rfl
  rintro ⟨i, r, q⟩ ⟨⟨i0, i1⟩, ⟨hr, hq⟩, ⟨ur0, ur1, ur2, ur3⟩, uq⟩
  simp only at i0 i1 hr hq ur0 ur1 ur2 ur3 uq
  have br4 := val4_lt ur0 ur1 ur2 ur3
  refine br (fun c => ?_) fun c => ?_
  · simp only at c
    obtain ⟨k, rfl⟩ := Int.eq_ofNat_of_zero_le (show 0 ≤ i by omega)
    have ek : ((k : Int) + 1).toNat = k + 1 := by omega
    have ek1 : (k : Int).toNat = k := rfl
    unfold rDivR at hr
    unfold rDivQ at hq
    rw [ek] at hr hq
    obtain ⟨s1, s2, s3, s4⟩ := rd_step (n := val8 lo0 lo1 lo2 lo3 hi0 hi1 hi2 hi3) k hM0
    rw [← hr] at s1 s2 s3 s4
    have hbit : 0 ≤ val8 lo0 lo1 lo2 lo3 hi0 hi1 hi2 hi3 / 2 ^ k % 2 ∧ val8 lo0 lo1 lo2 lo3 hi0 hi1 hi2 hi3 / 2 ^ k % 2 ≤ 1 := by omega
    refine ⟨⟨ur0, ur1, ur2, ur3, by omega, by omega⟩, fun v5 h5 => ⟨⟨ur0, ur1, ur2, ur3, ur0, ur1, ur2, ur3⟩, fun v6 h6 v7 h7 => ?_⟩⟩
    simp only at h5 h6
    have e5 : v5 = val4 (r 0) (r 1) (r 2) (r 3) / 57896044618658097711785492504343953926634992332820282019728792003956564819968 := by
      have : v5 = val4 (r 0) (r 1) (r 2) (r 3) / 2 ^ (255 : Nat) % 2 := by rw [h5]; unfold bitF; rw [if_neg (by omega)]; rfl
      rw [this, show (2 : Int) ^ (255 : Nat) = 57896044618658097711785492504343953926634992332820282019728792003956564819968 by decide +kernel]; omega
    -- the two ways to the bit
    intro v8 h8
    refine ⟨br (fun c8 => ?_) (fun c8 => ?_) v8 h8, ?_⟩
    · intro v9 h9
      simp only at c8 h9
      rw [i64_id (by omega) (by omega)] at h9
      refine ⟨⟨hh0, hh1, hh2, hh3, by omega, by omega⟩, fun v10 h10 v11 h11 => ⟨_, rfl, ⟨trivial, trivial, trivial, trivial, trivial, trivial, rfl, trivial, trivial, rfl, rfl, trivial⟩, ⟨rfl, rfl, rfl, rfl, trivial⟩, ⟨rfl, rfl, rfl, rfl, trivial⟩, ⟨rfl, rfl, rfl, rfl, trivial⟩, ⟨rfl, rfl, rfl, rfl, trivial⟩, ⟨rfl, rfl, rfl, rfl, trivial⟩, ⟨rfl, rfl, rfl, rfl, trivial⟩, ⟨?_, rfl, rfl, rfl, trivial⟩, ⟨rfl, fun _ _ _ => rfl, trivial⟩, trivial⟩⟩
      have e10 : v10 = val8 lo0 lo1 lo2 lo3 hi0 hi1 hi2 hi3 / 2 ^ k % 2 := by
        obtain ⟨j, hj⟩ := Int.eq_ofNat_of_zero_le (show 0 ≤ v9 by omega)
        rw [h10]; unfold bitF; rw [if_neg (by omega), hj, show (j : Int).toNat = j from rfl, hN]
        have hp : (2 : Int) ^ k = 115792089237316195423570985008687907853269984665640564039457584007913129639936 * 2 ^ j := by
          rw [show k = 256 + j by omega, Int.pow_add, show (2 : Int) ^ (256 : Nat) = 115792089237316195423570985008687907853269984665640564039457584007913129639936 by decide +kernel]
        rw [hp, ← Int.ediv_ediv_of_nonneg (by omega)]
        congr 2
        omega
      rw [h11, e10]
      exact (rd_low h6 br4 hbit rfl).1
    · simp only at c8
      refine ⟨⟨hl0, hl1, hl2, hl3, by omega, by omega⟩, fun v10 h10 v11 h11 => ⟨_, rfl, ⟨trivial, trivial, trivial, trivial, trivial, trivial, rfl, trivial, trivial, rfl, rfl, trivial⟩, ⟨rfl, rfl, rfl, rfl, trivial⟩, ⟨rfl, rfl, rfl, rfl, trivial⟩, ⟨rfl, rfl, rfl, rfl, trivial⟩, ⟨rfl, rfl, rfl, rfl, trivial⟩, ⟨rfl, rfl, rfl, rfl, trivial⟩, ⟨rfl, rfl, rfl, rfl, trivial⟩, ⟨?_, rfl, rfl, rfl, trivial⟩, ⟨rfl, fun _ _ _ => rfl, trivial⟩, trivial⟩⟩
      have e10 : v10 = val8 lo0 lo1 lo2 lo3 hi0 hi1 hi2 hi3 / 2 ^ k % 2 := by
        rw [h10]; unfold bitF; rw [if_neg (by omega), ek1, hN]
        have hp : (115792089237316195423570985008687907853269984665640564039457584007913129639936 : Int) = 2 ^ k * (2 ^ (255 - k) * 2) := by
          rw [← Int.pow_succ, ← Int.pow_add, show k + (255 - k + 1) = 256 by omega]; decide +kernel
        have e : val4 hi0 hi1 hi2 hi3 * 115792089237316195423570985008687907853269984665640564039457584007913129639936 + val4 lo0 lo1 lo2 lo3 = val4 lo0 lo1 lo2 lo3 + 2 ^ k * (val4 hi0 hi1 hi2 hi3 * 2 ^ (255 - k) * 2) := by
          rw [hp]; grind
        rw [e, Int.add_mul_ediv_left _ _ (by have : (0 : Int) < 2 ^ k := Int.pow_pos (by omega); omega)]
        omega
      rw [h11, e10]
      exact (rd_low h6 br4 hbit rfl).1
    intro v18 h18
    have h18 : v18 = limb v6 0 + val8 lo0 lo1 lo2 lo3 hi0 hi1 hi2 hi3 / 2 ^ k % 2 := h18
    obtain ⟨_, u18, e18⟩ := rd_low h6 br4 hbit h18
    have L : ∀ x j, U64 (limb x j) := limb_in
    have b18 := val4_lt u18 (L v6 1) (L v6 2) (L v6 3)
    -- the quotient's bit, and the round's end
    have fin : val4 m0 m1 m2 m3 ≤ 2 * val4 (r 0) (r 1) (r 2) (r 3) + val8 lo0 lo1 lo2 lo3 hi0 hi1 hi2 hi3 / 2 ^ k % 2 → ∀ v22 : Int, v22 = val4 v18 (limb v6 1) (limb v6 2) (limb v6 3) - val4 m0 m1 m2 m3 → ∀ w : Int, w = (k : Int) / 64 → ∀ v32 : Int, v32 = (k : Int) % 64 →
        ∀ v33, v33 = shlI IntKind.u64 1 v32 → ∀ v34, v34 = bitI .or .u64 (q w) v33 → ∀ v37, v37 = updF q w v34 → ∀ v38 : Int, v38 = (k : Int) - 1 →
        rdInv (val8 lo0 lo1 lo2 lo3 hi0 hi1 hi2 hi3) (val4 m0 m1 m2 m3) v38 (limb v22 0) (limb v22 1) (limb v22 2) (limb v22 3) (v37 0) (v37 1) (v37 2) (v37 3) (v37 4) (v37 5) (v37 6) (v37 7) := by
      intro hle v22 h22 w hw v32 h32 v33 h33 v34 h34 v37 h37 v38 h38
      rw [if_pos hle] at s1 s2
      have e38 : (v38 + 1).toNat = k := by omega
      obtain ⟨W, rfl⟩ := Int.eq_ofNat_of_zero_le (show 0 ≤ w by omega)
      obtain ⟨S, rfl⟩ := Int.eq_ofNat_of_zero_le (show 0 ≤ v32 by omega)
      have hkS : k = S + 64 * W := by omega
      have hS : S < 64 := by omega
      have pS : (2 : Int) ^ S ≤ 9223372036854775808 := by
        have q1 : (2 : Nat) ^ S ≤ 2 ^ 63 := Nat.pow_le_pow_right (by omega) (by omega)
        have q2 : ((2 ^ S : Nat) : Int) ≤ ((2 ^ 63 : Nat) : Int) := Int.ofNat_le.2 q1
        rw [show ((2 ^ 63 : Nat) : Int) = 9223372036854775808 from rfl, Int.natCast_pow] at q2
        exact q2
      have p0 : (0 : Int) < 2 ^ S := Int.pow_pos (by omega)
      have e33 : v33 = 2 ^ S := by rw [h33, shlN .u64 1 S S (2 ^ S) rfl rfl (by simp only [IntKind.bits]; omega), u64_id (by omega) (by omega), Int.one_mul]
      rw [e33] at h34
      have key := qset (f := q) (w := (W : Int)) (s := S) (t := val8 lo0 lo1 lo2 lo3 hi0 hi1 hi2 hi3 / 2 ^ (k + 1) / val4 m0 m1 m2 m3) (by omega) (by omega) hS uq (by
        rw [hq, show ((W : Int)).toNat = W from rfl, ← Int.pow_add, show S + 1 + 64 * W = k + 1 by omega])
      rw [← h34, ← h37] at key
      refine ⟨⟨by omega, by omega⟩, ⟨?_, ?_⟩, ⟨L .., L .., L .., L ..⟩, key.2⟩
      · unfold rDivR
        rw [e38, s1, val4_limb, h22, e18]
        omega
      · unfold rDivQ
        rw [key.1, e38, s2, hq, show ((W : Int)).toNat = W from rfl, ← Int.pow_add, show S + 64 * W = k by omega, Int.pow_succ]
        grind
    have same : ∀ {a b : Int}, (∀ x, a ≤ x → x < b → q x = q x) := fun x _ _ => rfl
    have idx := idx_parts (i := (k : Int)) (by omega) (by omega)
    refine rbE (fun c19 => ?_) fun c19 => ?_
    · refine ⟨⟨u18, L .., L .., L .., hm0, hm1, hm2, hm3⟩, fun v20 h20 => br (fun c21 => ?_) fun c21 => ?_⟩
      · have hle : val4 m0 m1 m2 m3 ≤ 2 * val4 (r 0) (r 1) (r 2) (r 3) + val8 lo0 lo1 lo2 lo3 hi0 hi1 hi2 hi3 / 2 ^ k % 2 := by
          have : val4 m0 m1 m2 m3 ≤ val4 v18 (limb v6 1) (limb v6 2) (limb v6 3) := by
            rw [h20] at c21; unfold cmpF at c21
            split at c21
            · omega
            · omega
          rw [e18] at this; omega
        refine ⟨⟨u18, L .., L .., L .., hm0, hm1, hm2, hm3⟩, fun v22 h22 v23 h23 v24 h24 v25 h25 v26 h26 v27 h27 v28 h28 => ?_⟩
        simp only at h24 h25 h27
        obtain ⟨x1, x2, x3, x4⟩ := idx v24 h24 v25 h25 v26 h26
        have e27 : v27 = v25 := by rw [h27, h25]
        have e28 : v28 = v26 := by rw [h28, h26]
        rw [e27, e28]
        refine ⟨x3, fun v29 h29 => ⟨⟨by omega, x4⟩, fun v30 h30 => ⟨⟨by omega, by omega⟩, fun v31 h31 v32 h32 => ⟨by rw [h32, x2]; exact decide_eq_true (by omega), fun v33 h33 v34 h34 => ⟨x3, fun v35 h35 => ⟨⟨by omega, x4⟩, fun v36 h36 => ⟨⟨by omega, by omega⟩, fun v37 h37 v38 h38 => ?_⟩⟩⟩⟩⟩⟩⟩
        simp only at h38 h31 h37
        rw [i64_id (by omega) (by omega)] at h38
        have w1 : v30 = (k : Int) / 64 := by omega
        have w2 : v36 = v30 := by omega
        rw [h31] at h34
        rw [w2] at h37
        exact ⟨(v38, fun j => limb v22 j, v37), fin hle v22 h22 v30 w1 v32 (by rw [h32, x2]) v33 h33 v34 h34 v37 h37 v38 h38, ⟨⟨trivial, trivial, trivial, trivial, trivial, trivial, rfl, trivial, trivial, rfl, trivial⟩, ⟨rfl, rfl, rfl, rfl, trivial⟩, ⟨rfl, rfl, rfl, rfl, trivial⟩, ⟨rfl, rfl, rfl, rfl, trivial⟩, ⟨rfl, rfl, rfl, rfl, trivial⟩, ⟨rfl, rfl, rfl, rfl, trivial⟩, ⟨rfl, rfl, rfl, rfl, trivial⟩, ⟨rfl, rfl, rfl, rfl, trivial⟩, ⟨rfl, fun _ _ _ => rfl, trivial⟩, trivial⟩, by simp only; omega⟩
      · have hle : ¬ val4 m0 m1 m2 m3 ≤ 2 * val4 (r 0) (r 1) (r 2) (r 3) + val8 lo0 lo1 lo2 lo3 hi0 hi1 hi2 hi3 / 2 ^ k % 2 := by
          have : val4 v18 (limb v6 1) (limb v6 2) (limb v6 3) < val4 m0 m1 m2 m3 := by
            rw [h20] at c21; unfold cmpF at c21
            split at c21
            · assumption
            · split at c21 <;> omega
          rw [e18] at this; omega
        rw [if_neg hle] at s1 s2
        intro v41 h41
        simp only at h41
        rw [i64_id (by omega) (by omega)] at h41
        refine ⟨(v41, fun j => if j = 0 then v18 else limb v6 j, q), ⟨⟨by simp only; omega, by simp only; omega⟩, ⟨?_, ?_⟩, ⟨u18, L .., L .., L ..⟩, uq⟩, ⟨⟨trivial, trivial, trivial, trivial, trivial, trivial, rfl, trivial, trivial, rfl, trivial⟩, ⟨rfl, rfl, rfl, rfl, trivial⟩, ⟨rfl, rfl, rfl, rfl, trivial⟩, ⟨rfl, rfl, rfl, rfl, trivial⟩, ⟨rfl, rfl, rfl, rfl, trivial⟩, ⟨rfl, rfl, rfl, rfl, trivial⟩, ⟨rfl, rfl, rfl, rfl, trivial⟩, ⟨rfl, rfl, rfl, rfl, trivial⟩, ⟨rfl, fun _ _ _ => rfl, trivial⟩, trivial⟩, by simp only; omega⟩
        · show val4 v18 (limb v6 1) (limb v6 2) (limb v6 3) = rDivR _ _ v41
          unfold rDivR
          rw [show (v41 + 1).toNat = k by omega, s1, e18]; omega
        · show val8 (q 0) (q 1) (q 2) (q 3) (q 4) (q 5) (q 6) (q 7) = rDivQ _ _ v41
          unfold rDivQ
          rw [show (v41 + 1).toNat = k by omega, s2, hq, Int.pow_succ]; grind
    · have hle : val4 m0 m1 m2 m3 ≤ 2 * val4 (r 0) (r 1) (r 2) (r 3) + val8 lo0 lo1 lo2 lo3 hi0 hi1 hi2 hi3 / 2 ^ k % 2 := by omega
      refine ⟨⟨u18, L .., L .., L .., hm0, hm1, hm2, hm3⟩, fun v22 h22 v23 h23 v24 h24 v25 h25 v26 h26 v27 h27 v28 h28 => ?_⟩
      simp only at h24 h25 h27
      obtain ⟨x1, x2, x3, x4⟩ := idx v24 h24 v25 h25 v26 h26
      have e27 : v27 = v25 := by rw [h27, h25]
      have e28 : v28 = v26 := by rw [h28, h26]
      rw [e27, e28]
      refine ⟨x3, fun v29 h29 => ⟨⟨by omega, x4⟩, fun v30 h30 => ⟨⟨by omega, by omega⟩, fun v31 h31 v32 h32 => ⟨by rw [h32, x2]; exact decide_eq_true (by omega), fun v33 h33 v34 h34 => ⟨x3, fun v35 h35 => ⟨⟨by omega, x4⟩, fun v36 h36 => ⟨⟨by omega, by omega⟩, fun v37 h37 v38 h38 => ?_⟩⟩⟩⟩⟩⟩⟩
      simp only at h38 h31 h37
      rw [i64_id (by omega) (by omega)] at h38
      have w1 : v30 = (k : Int) / 64 := by omega
      have w2 : v36 = v30 := by omega
      rw [h31] at h34
      rw [w2] at h37
      exact ⟨(v38, fun j => limb v22 j, v37), fin hle v22 h22 v30 w1 v32 (by rw [h32, x2]) v33 h33 v34 h34 v37 h37 v38 h38, ⟨⟨trivial, trivial, trivial, trivial, trivial, trivial, rfl, trivial, trivial, rfl, trivial⟩, ⟨rfl, rfl, rfl, rfl, trivial⟩, ⟨rfl, rfl, rfl, rfl, trivial⟩, ⟨rfl, rfl, rfl, rfl, trivial⟩, ⟨rfl, rfl, rfl, rfl, trivial⟩, ⟨rfl, rfl, rfl, rfl, trivial⟩, ⟨rfl, rfl, rfl, rfl, trivial⟩, ⟨rfl, rfl, rfl, rfl, trivial⟩, ⟨rfl, fun _ _ _ => rfl, trivial⟩, trivial⟩, by simp only; omega⟩
  · have e : i = -1 := by simp only at c; omega
    subst e
    refine ⟨by omega, fun v63 h63 v64 h64 v65 h65 v66 h66 => ⟨by omega, fun v67 h67 v68 h68 v69 h69 v70 h70 => ?_⟩⟩
    obtain ⟨uq0, uq1, uq2, uq3, uq4, uq5, uq6, uq7⟩ := uq
    have hq' : val8 (q 0) (q 1) (q 2) (q 3) (q 4) (q 5) (q 6) (q 7) = val8 lo0 lo1 lo2 lo3 hi0 hi1 hi2 hi3 / val4 m0 m1 m2 m3 := by
      rw [hq]; show val8 lo0 lo1 lo2 lo3 hi0 hi1 hi2 hi3 / 2 ^ (0 : Nat) / val4 m0 m1 m2 m3 * 2 ^ (0 : Nat) = _
      simp
    have hr' : val4 (r 0) (r 1) (r 2) (r 3) = val8 lo0 lo1 lo2 lo3 hi0 hi1 hi2 hi3 % val4 m0 m1 m2 m3 := by
      rw [hr]; show val8 lo0 lo1 lo2 lo3 hi0 hi1 hi2 hi3 / 2 ^ (0 : Nat) % val4 m0 m1 m2 m3 = _
      simp
    have fq : qF (val4 lo0 lo1 lo2 lo3) (val4 hi0 hi1 hi2 hi3) (val4 m0 m1 m2 m3) = val4 (q 0) (q 1) (q 2) (q 3) + val4 (q 4) (q 5) (q 6) (q 7) * 115792089237316195423570985008687907853269984665640564039457584007913129639936 := by
      unfold qF; rw [if_neg hM, ← hN, ← hq']; rfl
    have fr : rF (val4 lo0 lo1 lo2 lo3) (val4 hi0 hi1 hi2 hi3) (val4 m0 m1 m2 m3) = val4 (r 0) (r 1) (r 2) (r 3) := by
      unfold rF; rw [if_neg hM, ← hN, hr']
    obtain ⟨⟨a0, a1, a2, a3⟩, a4, a5, a6, a7⟩ := halves8 uq0 uq1 uq2 uq3 uq4 uq5 uq6 uq7 fq
    obtain ⟨c0, c1, c2, c3⟩ := limbs4' ur0 ur1 ur2 ur3
    rw [← fr] at c0 c1 c2 c3
    rw [h63, h64, h65, h66, h67, h68, h69, h70]
    exact ⟨⟨⟨rfl, a0⟩, ⟨rfl, a1⟩, ⟨rfl, a2⟩, ⟨rfl, a3⟩, trivial⟩, ⟨⟨rfl, a4⟩, ⟨rfl, a5⟩, ⟨rfl, a6⟩, ⟨rfl, a7⟩, trivial⟩, ⟨⟨rfl, c0.symm⟩, ⟨rfl, c1.symm⟩, ⟨rfl, c2.symm⟩, ⟨rfl, c3.symm⟩, trivial⟩, ⟨rfl, by rw [if_neg hM]⟩, trivial⟩
theorem rDiv_ok : SpecOk Tryd.prog 9 rDivSpec := by
  intro args k h
  unfold rDivSpec at h
  split at h
  · rename_i lo0 lo1 lo2 lo3 hi0 hi1 hi2 hi3 m0 m1 m2 m3
    obtain ⟨hr, h⟩ := h
    exact ⟨_, h _ rfl _ rfl _ rfl _ rfl, PureOk.of_tie (GL Tryd.prog rdSpec rdAnnSpec rdCutSpec) (fun w__ => gokL w__ namesOk_ mixed_ rd_ok) (fun _ => rfl) (fun _ => rfl) (args' := [.agg [.int .u64 (.sym lo0.val), .int .u64 (.sym lo1.val), .int .u64 (.sym lo2.val), .int .u64 (.sym lo3.val)], .agg [.int .u64 (.sym hi0.val), .int .u64 (.sym hi1.val), .int .u64 (.sym hi2.val), .int .u64 (.sym hi3.val)], .agg [.int .u64 (.sym m0.val), .int .u64 (.sym m1.val), .int .u64 (.sym m2.val), .int .u64 (.sym m3.val)]]) ⟨⟨⟨rfl, rfl⟩, ⟨rfl, rfl⟩, ⟨rfl, rfl⟩, ⟨rfl, rfl⟩, trivial⟩, ⟨⟨rfl, rfl⟩, ⟨rfl, rfl⟩, ⟨rfl, rfl⟩, ⟨rfl, rfl⟩, trivial⟩, ⟨⟨rfl, rfl⟩, ⟨rfl, rfl⟩, ⟨rfl, rfl⟩, ⟨rfl, rfl⟩, trivial⟩, trivial⟩ 40 (fun w__ => VCRDiv lo0.val lo1.val lo2.val lo3.val hi0.val hi1.val hi2.val hi3.val m0.val m1.val m2.val m3.val) (fun w__ => tieRDiv w__ lo0.val lo1.val lo2.val lo3.val hi0.val hi1.val hi2.val hi3.val m0.val m1.val m2.val m3.val) (fun w__ => pureRDiv lo0.val lo1.val lo2.val lo3.val hi0.val hi1.val hi2.val hi3.val m0.val m1.val m2.val m3.val hr)⟩
  · exact h.elim

end Go.Proofs.YtaaobpalpcdlbaaDoor.Bits
