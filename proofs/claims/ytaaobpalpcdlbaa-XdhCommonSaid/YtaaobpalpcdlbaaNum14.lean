import Derived.Test.YtaaobpalpcdlbaaSxN
import Derived.Test.YtaaobpalpcdlbaaSxP
import Derived.Test.YtaaobpalpcdlbaaProg
import Derived.Test.YtaaobpalpcdlbaaNum13
import Derived.KernelRfl
namespace Go.Proofs.Ytaaobpalpcdlbaa.Bits
open Go Go.Sx Go.RowKit
set_option linter.unusedVariables false
set_option maxRecDepth 100000
def hKeepSpec (S : St) (b : Nat) (ks : List Nat) : St := match hget S.hp b with
  | some (.loop st pe ts ps asg body db) => ⟨S.ts, S.df, hput S.hp b (some (.loop st pe (keepTs ks 0 ts) ps asg body db))⟩
  | _ => S
def sqF (a m n : Int) : Int := if n = 0 then a else modF (a ^ (2 ^ n.toNat)) m
def powF (a e m : Int) : Int := modF (a ^ e.toNat) m
def powR (a e m l i out sq at_ : Int) : Prop := l = lenF e ∧ (0 ≤ i ∧ i ≤ l) ∧ (0 ≤ at_ ∧ at_ ≤ i) ∧ out = powF a (e % 2 ^ i.toNat) m ∧ sq = sqF a m at_
def setASpec : St → Inv := fun S =>
  { ι := Int × Int × Int × Int
    T := fun p => stS (keepS (hKeepSpec (hset (hNumSpec (hNumSpec S 4 p.2.1) 5 p.2.2.1) 6 0 (.int .i64 (.sym p.2.2.2))) 9 [3, 4, 5, 6, 7, 8, 9]) [0, 1, 5]) [(6, .int .i64 (.sym p.1))]
    R := fun p => powR (val4 (hat S 0 0) (hat S 0 1) (hat S 0 2) (hat S 0 3)) (val4 (hat S 1 0) (hat S 1 1) (hat S 1 2) (hat S 1 3)) (val4 (hat S 2 0) (hat S 2 1) (hat S 2 2) (hat S 2 3)) (iat S 5) p.1 p.2.1 p.2.2.1 p.2.2.2
    μ := fun p => (iat S 5 - p.1).toNat }
def powBSpec : St → Inv := fun S =>
  { ι := Int × Int
    T := fun p => keepS (hset (hNumSpec S 5 p.1) 6 0 (.int .i64 (.sym p.2))) [3, 4, 5, 6, 7, 8, 9, 10]
    R := fun p => p.1 = sqF (val4 (hat S 0 0) (hat S 0 1) (hat S 0 2) (hat S 0 3)) (val4 (hat S 2 0) (hat S 2 1) (hat S 2 2) (hat S 2 3)) p.2 ∧ hat S 6 0 ≤ p.2 ∧ p.2 ≤ iat S 10
    μ := fun p => (iat S 10 - p.2).toNat }
def md4AnnSpec : Anns := [(135, 0, setASpec), (135, 2, powBSpec)]
def rfHint4 : List Nat := [20]
def md4CutSpec : Anns := []
def md4Spec : List (FuncId × CSpec) := [(23, remSpec), (24, mMulSpec), (128, lenSpec), (136, bitSpec)]
theorem md4_ok : SpecsOk Try.prog md4Spec := ⟨rem_ok, mMul_ok, len_ok, bit_ok, trivial⟩
theorem modF_mul_left (x y m : Int) : modF (modF x m * y) m = modF (x * y) m := by
  unfold modF
  by_cases h : m = 0
  · simp [h]
  · simp only [if_neg h, Int.mul_emod, Int.emod_emod]
theorem modF_mul_right (x y m : Int) : modF (x * modF y m) m = modF (x * y) m := by
  rw [Int.mul_comm, modF_mul_left, Int.mul_comm]
theorem sqF_step {a m n : Int} (h : 0 ≤ n) : modF (sqF a m n * sqF a m n) m = sqF a m (n + 1) := by
  obtain ⟨k, rfl⟩ := Int.eq_ofNat_of_zero_le h
  have e : ((k : Int) + 1).toNat = k + 1 := by omega
  have e' : a ^ 2 ^ (k + 1) = a ^ 2 ^ k * a ^ 2 ^ k := by rw [Nat.pow_succ, Nat.mul_two, Int.pow_add]
  by_cases hk : k = 0
  · subst hk
    simp only [sqF]
    rw [if_pos (by omega), if_neg (by omega), e, e']
    simp [Int.pow_succ]
  · simp only [sqF]
    rw [if_neg (by omega), if_neg (by omega), e, e', modF_mul_left, modF_mul_right]
    rfl
theorem emod_succ (e : Int) (k : Nat) : e % 2 ^ (k + 1) = e % 2 ^ k + 2 ^ k * (e / 2 ^ k % 2) := by
  have p : (0 : Int) < 2 ^ k := Int.pow_pos (by omega)
  have h1 := Int.emod_add_mul_ediv e (2 ^ k)
  have h2 := Int.emod_add_mul_ediv (e / 2 ^ k) 2
  have b0 := Int.emod_nonneg e (show (2 : Int) ^ k ≠ 0 by omega)
  have b1 := Int.emod_lt_of_pos e p
  have c0 := Int.emod_nonneg (e / 2 ^ k) (show (2 : Int) ≠ 0 by omega)
  have c1 := Int.emod_lt_of_pos (e / 2 ^ k) (show (0 : Int) < 2 by omega)
  rw [Int.pow_succ]
  generalize e / 2 ^ k % 2 = b at *
  generalize e / 2 ^ k / 2 = q at *
  generalize e % 2 ^ k = r at *
  generalize e / 2 ^ k = w at *
  generalize (2 : Int) ^ k = P at *
  have e1 : e = (r + P * b) + (P * 2) * q := by rw [← h1, ← h2]; grind
  have hb : 0 ≤ P * b := Int.mul_nonneg (by omega) c0
  have hb' : P * b ≤ P * 1 := Int.mul_le_mul_of_nonneg_left (by omega) (by omega)
  rw [e1, Int.add_mul_emod_self_left]
  exact Int.emod_eq_of_lt (by omega) (by omega)
theorem powF_set {a e m i : Int} (h : 0 ≤ i) (hb : e / 2 ^ i.toNat % 2 = 1) : modF (powF a (e % 2 ^ i.toNat) m * sqF a m i) m = powF a (e % 2 ^ (i + 1).toNat) m := by
  obtain ⟨k, rfl⟩ := Int.eq_ofNat_of_zero_le h
  have e1 : ((k : Int) + 1).toNat = k + 1 := by omega
  have e0 : (k : Int).toNat = k := rfl
  rw [e0] at hb
  rw [e1, e0, emod_succ, hb]
  have p : (0 : Int) < 2 ^ k := Int.pow_pos (by omega)
  have b0 := Int.emod_nonneg e (show (2 : Int) ^ k ≠ 0 by omega)
  have ep : ((2 : Int) ^ k).toNat = 2 ^ k := by
    have : (2 : Int) ^ k = ((2 ^ k : Nat) : Int) := by simp
    rw [this]; rfl
  have e2 : (e % 2 ^ k + 2 ^ k * 1).toNat = (e % 2 ^ k).toNat + 2 ^ k := by rw [← ep]; omega
  unfold powF
  rw [e2, Int.pow_add, modF_mul_left]
  unfold sqF
  split
  · rename_i z
    have : k = 0 := by omega
    subst this; simp [Int.pow_succ]
  · rw [modF_mul_right]; rfl
theorem powF_unset {a e m i : Int} (h : 0 ≤ i) (hb : e / 2 ^ i.toNat % 2 = 0) : powF a (e % 2 ^ i.toNat) m = powF a (e % 2 ^ (i + 1).toNat) m := by
  obtain ⟨k, rfl⟩ := Int.eq_ofNat_of_zero_le h
  have e1 : ((k : Int) + 1).toNat = k + 1 := by omega
  have e0 : (k : Int).toNat = k := rfl
  rw [e0] at hb
  rw [e1, e0, emod_succ, hb]; simp
theorem lenF_lt {e : Int} (h : 0 ≤ e) : 0 ≤ lenF e ∧ e < 2 ^ (lenF e).toNat := by
  by_cases z : e = 0
  · subst z; unfold lenF; simp
  · obtain ⟨k, ek, k1, k2⟩ := lenF_spec (show 0 < e by omega)
    rw [ek]
    exact ⟨by omega, by have : ((k : Int) + 1).toNat = k + 1 := by omega
                        rw [this]; exact k2⟩
theorem sqF_in {a m n : Int} (ha : 0 ≤ a ∧ a < 115792089237316195423570985008687907853269984665640564039457584007913129639936) (hm : 0 ≤ m ∧ m < 115792089237316195423570985008687907853269984665640564039457584007913129639936) : 0 ≤ sqF a m n ∧ sqF a m n < 115792089237316195423570985008687907853269984665640564039457584007913129639936 := by
  unfold sqF; split
  · exact ha
  · have := modF_in (x := a ^ 2 ^ n.toNat) hm.1; omega
theorem powF_in {a e m : Int} (hm : 0 ≤ m ∧ m < 115792089237316195423570985008687907853269984665640564039457584007913129639936) : 0 ≤ powF a e m ∧ powF a e m < 115792089237316195423570985008687907853269984665640564039457584007913129639936 := by
  unfold powF; have := modF_in (x := a ^ e.toNat) hm.1; omega
def mPowSpec : CSpec
  | [.agg [.int .u64 a0, .int .u64 a1, .int .u64 a2, .int .u64 a3], .agg [.int .u64 e0, .int .u64 e1, .int .u64 e2, .int .u64 e3], .agg [.int .u64 m0, .int .u64 m1, .int .u64 m2, .int .u64 m3]], k => ((U64 a0.val) ∧ (U64 a1.val) ∧ (U64 a2.val) ∧ (U64 a3.val) ∧ (U64 e0.val) ∧ (U64 e1.val) ∧ (U64 e2.val) ∧ (U64 e3.val) ∧ (U64 m0.val) ∧ (U64 m1.val) ∧ (U64 m2.val) ∧ (U64 m3.val)) ∧ (∀ r0 : Int, r0 = (powF (val4 a0.val a1.val a2.val a3.val) (val4 e0.val e1.val e2.val e3.val) (val4 m0.val m1.val m2.val m3.val)) → k (.agg [.int .u64 (.sym (limb r0 0)), .int .u64 (.sym (limb r0 1)), .int .u64 (.sym (limb r0 2)), .int .u64 (.sym (limb r0 3))]))
  | _, _ => False
def VCMPow (a0 : Int) (a1 : Int) (a2 : Int) (a3 : Int) (e0 : Int) (e1 : Int) (e2 : Int) (e3 : Int) (m0 : Int) (m1 : Int) (m2 : Int) (m3 : Int) : Prop :=
  (U64 1 /\ U64 0 /\ U64 0 /\ U64 0 /\ U64 0 /\ U64 0 /\ U64 0 /\ U64 0 /\ U64 m0 /\ U64 m1 /\ U64 m2 /\ U64 m3) /\ ∀ v1, v1 = rF (1 : Int) (0 : Int) (val4 m0 m1 m2 m3) -> (U64 e0 /\ U64 e1 /\ U64 e2 /\ U64 e3) /\ ∀ v2, v2 = lenF (val4 e0 e1 e2 e3) -> (∃ (x3 : Int × Int × Int × Int), powR (val4 a0 a1 a2 a3) (val4 e0 e1 e2 e3) (val4 m0 m1 m2 m3) v2 x3.fst x3.snd.fst x3.snd.snd.fst x3.snd.snd.snd /\ (True /\ True /\ v2 = v2 /\ (0 : Int) = x3.fst /\ True) /\ (a0 = a0 /\ a1 = a1 /\ a2 = a2 /\ a3 = a3 /\ True) /\ (e0 = e0 /\ e1 = e1 /\ e2 = e2 /\ e3 = e3 /\ True) /\ (m0 = m0 /\ m1 = m1 /\ m2 = m2 /\ m3 = m3 /\ True) /\ ((0 : Int) = (0 : Int) /\ (0 : Int) = (0 : Int) /\ (0 : Int) = (0 : Int) /\ (0 : Int) = (0 : Int) /\ True) /\ (limb v1 0 = limb x3.snd.fst 0 /\ limb v1 1 = limb x3.snd.fst 1 /\ limb v1 2 = limb x3.snd.fst 2 /\ limb v1 3 = limb x3.snd.fst 3 /\ True) /\ (a0 = limb x3.snd.snd.fst 0 /\ a1 = limb x3.snd.snd.fst 1 /\ a2 = limb x3.snd.snd.fst 2 /\ a3 = limb x3.snd.snd.fst 3 /\ True) /\ ((0 : Int) = x3.snd.snd.snd /\ True) /\ (e0 = e0 /\ e1 = e1 /\ e2 = e2 /\ e3 = e3 /\ True) /\ True /\ ((True /\ True /\ True /\ True /\ True /\ True /\ True /\ True) /\ sameCode (rfAt Try.prog 20 0).fst (rfAt Try.prog 20 0).fst /\ sameCode (rfAt Try.prog 20 0).snd (rfAt Try.prog 20 0).snd) /\ True) /\ ∀ (v4 : Int × Int × Int × Int), powR (val4 a0 a1 a2 a3) (val4 e0 e1 e2 e3) (val4 m0 m1 m2 m3) v2 v4.fst v4.snd.fst v4.snd.snd.fst v4.snd.snd.snd -> ∀ v5, v5 = decide (v4.fst < v2) -> (v5 = true -> (U64 e0 /\ U64 e1 /\ U64 e2 /\ U64 e3 /\ I64 v4.fst) /\ ∀ v6, v6 = bitF (val4 e0 e1 e2 e3) v4.fst -> ∀ v7, v7 = (v6 == (1 : Int)) -> (v7 = true -> (∃ (x8 : Int × Int), (x8.fst = sqF (val4 a0 a1 a2 a3) (val4 m0 m1 m2 m3) x8.snd /\ v4.snd.snd.snd ≤ x8.snd /\ x8.snd ≤ v4.fst) /\ (True /\ True /\ True /\ True /\ True /\ True /\ True /\ v4.fst = v4.fst /\ True) /\ (a0 = a0 /\ a1 = a1 /\ a2 = a2 /\ a3 = a3 /\ True) /\ (e0 = e0 /\ e1 = e1 /\ e2 = e2 /\ e3 = e3 /\ True) /\ (m0 = m0 /\ m1 = m1 /\ m2 = m2 /\ m3 = m3 /\ True) /\ ((0 : Int) = (0 : Int) /\ (0 : Int) = (0 : Int) /\ (0 : Int) = (0 : Int) /\ (0 : Int) = (0 : Int) /\ True) /\ (limb v4.snd.fst 0 = limb v4.snd.fst 0 /\ limb v4.snd.fst 1 = limb v4.snd.fst 1 /\ limb v4.snd.fst 2 = limb v4.snd.fst 2 /\ limb v4.snd.fst 3 = limb v4.snd.fst 3 /\ True) /\ (limb v4.snd.snd.fst 0 = limb x8.fst 0 /\ limb v4.snd.snd.fst 1 = limb x8.fst 1 /\ limb v4.snd.snd.fst 2 = limb x8.fst 2 /\ limb v4.snd.snd.fst 3 = limb x8.fst 3 /\ True) /\ (v4.snd.snd.snd = x8.snd /\ True) /\ (e0 = e0 /\ e1 = e1 /\ e2 = e2 /\ e3 = e3 /\ True) /\ True /\ ((True /\ True /\ True /\ True /\ True /\ True /\ True /\ True) /\ sameCode (rfAt Try.prog 20 0).fst (rfAt Try.prog 20 0).fst /\ sameCode (rfAt Try.prog 20 0).snd (rfAt Try.prog 20 0).snd) /\ True) /\ ∀ (v9 : Int × Int), v9.fst = sqF (val4 a0 a1 a2 a3) (val4 m0 m1 m2 m3) v9.snd /\ v4.snd.snd.snd ≤ v9.snd /\ v9.snd ≤ v4.fst -> ∀ v10, v10 = decide (v9.snd < v4.fst) -> (v10 = true -> (U64 (limb v9.fst 0) /\ U64 (limb v9.fst 1) /\ U64 (limb v9.fst 2) /\ U64 (limb v9.fst 3) /\ U64 (limb v9.fst 0) /\ U64 (limb v9.fst 1) /\ U64 (limb v9.fst 2) /\ U64 (limb v9.fst 3) /\ U64 m0 /\ U64 m1 /\ U64 m2 /\ U64 m3) /\ ∀ v11, v11 = modF (val4 (limb v9.fst 0) (limb v9.fst 1) (limb v9.fst 2) (limb v9.fst 3) * val4 (limb v9.fst 0) (limb v9.fst 1) (limb v9.fst 2) (limb v9.fst 3)) (val4 m0 m1 m2 m3) -> ∀ v12, v12 = IntKind.i64.wrap (v9.snd + (1 : Int)) -> ∃ (x13 : Int × Int), (x13.fst = sqF (val4 a0 a1 a2 a3) (val4 m0 m1 m2 m3) x13.snd /\ v4.snd.snd.snd ≤ x13.snd /\ x13.snd ≤ v4.fst) /\ ((True /\ True /\ True /\ True /\ True /\ True /\ True /\ v4.fst = v4.fst /\ True) /\ (a0 = a0 /\ a1 = a1 /\ a2 = a2 /\ a3 = a3 /\ True) /\ (e0 = e0 /\ e1 = e1 /\ e2 = e2 /\ e3 = e3 /\ True) /\ (m0 = m0 /\ m1 = m1 /\ m2 = m2 /\ m3 = m3 /\ True) /\ ((0 : Int) = (0 : Int) /\ (0 : Int) = (0 : Int) /\ (0 : Int) = (0 : Int) /\ (0 : Int) = (0 : Int) /\ True) /\ (limb v4.snd.fst 0 = limb v4.snd.fst 0 /\ limb v4.snd.fst 1 = limb v4.snd.fst 1 /\ limb v4.snd.fst 2 = limb v4.snd.fst 2 /\ limb v4.snd.fst 3 = limb v4.snd.fst 3 /\ True) /\ (limb v11 0 = limb x13.fst 0 /\ limb v11 1 = limb x13.fst 1 /\ limb v11 2 = limb x13.fst 2 /\ limb v11 3 = limb x13.fst 3 /\ True) /\ (v12 = x13.snd /\ True) /\ (e0 = e0 /\ e1 = e1 /\ e2 = e2 /\ e3 = e3 /\ True) /\ True /\ ((True /\ True /\ True /\ True /\ True /\ True /\ True /\ True) /\ sameCode (rfAt Try.prog 20 0).fst (rfAt Try.prog 20 0).fst /\ sameCode (rfAt Try.prog 20 0).snd (rfAt Try.prog 20 0).snd) /\ True) /\ (v4.fst - x13.snd).toNat < (v4.fst - v9.snd).toNat) /\ (v10 = false -> (U64 (limb v4.snd.fst 0) /\ U64 (limb v4.snd.fst 1) /\ U64 (limb v4.snd.fst 2) /\ U64 (limb v4.snd.fst 3) /\ U64 (limb v9.fst 0) /\ U64 (limb v9.fst 1) /\ U64 (limb v9.fst 2) /\ U64 (limb v9.fst 3) /\ U64 m0 /\ U64 m1 /\ U64 m2 /\ U64 m3) /\ ∀ v14, v14 = modF (val4 (limb v4.snd.fst 0) (limb v4.snd.fst 1) (limb v4.snd.fst 2) (limb v4.snd.fst 3) * val4 (limb v9.fst 0) (limb v9.fst 1) (limb v9.fst 2) (limb v9.fst 3)) (val4 m0 m1 m2 m3) -> ∀ v15, v15 = IntKind.i64.wrap (v4.fst + (1 : Int)) -> ∃ (x16 : Int × Int × Int × Int), powR (val4 a0 a1 a2 a3) (val4 e0 e1 e2 e3) (val4 m0 m1 m2 m3) v2 x16.fst x16.snd.fst x16.snd.snd.fst x16.snd.snd.snd /\ ((True /\ True /\ v2 = v2 /\ v15 = x16.fst /\ True) /\ (a0 = a0 /\ a1 = a1 /\ a2 = a2 /\ a3 = a3 /\ True) /\ (e0 = e0 /\ e1 = e1 /\ e2 = e2 /\ e3 = e3 /\ True) /\ (m0 = m0 /\ m1 = m1 /\ m2 = m2 /\ m3 = m3 /\ True) /\ ((0 : Int) = (0 : Int) /\ (0 : Int) = (0 : Int) /\ (0 : Int) = (0 : Int) /\ (0 : Int) = (0 : Int) /\ True) /\ (limb v14 0 = limb x16.snd.fst 0 /\ limb v14 1 = limb x16.snd.fst 1 /\ limb v14 2 = limb x16.snd.fst 2 /\ limb v14 3 = limb x16.snd.fst 3 /\ True) /\ (limb v9.fst 0 = limb x16.snd.snd.fst 0 /\ limb v9.fst 1 = limb x16.snd.snd.fst 1 /\ limb v9.fst 2 = limb x16.snd.snd.fst 2 /\ limb v9.fst 3 = limb x16.snd.snd.fst 3 /\ True) /\ (v9.snd = x16.snd.snd.snd /\ True) /\ (e0 = e0 /\ e1 = e1 /\ e2 = e2 /\ e3 = e3 /\ True) /\ True /\ ((True /\ True /\ True /\ True /\ True /\ True /\ True /\ True) /\ sameCode (rfAt Try.prog 20 0).fst (rfAt Try.prog 20 0).fst /\ sameCode (rfAt Try.prog 20 0).snd (rfAt Try.prog 20 0).snd) /\ True) /\ (v2 - x16.fst).toNat < (v2 - v4.fst).toNat)) /\ (v7 = false -> ∀ v17, v17 = IntKind.i64.wrap (v4.fst + (1 : Int)) -> ∃ (x18 : Int × Int × Int × Int), powR (val4 a0 a1 a2 a3) (val4 e0 e1 e2 e3) (val4 m0 m1 m2 m3) v2 x18.fst x18.snd.fst x18.snd.snd.fst x18.snd.snd.snd /\ ((True /\ True /\ v2 = v2 /\ v17 = x18.fst /\ True) /\ (a0 = a0 /\ a1 = a1 /\ a2 = a2 /\ a3 = a3 /\ True) /\ (e0 = e0 /\ e1 = e1 /\ e2 = e2 /\ e3 = e3 /\ True) /\ (m0 = m0 /\ m1 = m1 /\ m2 = m2 /\ m3 = m3 /\ True) /\ ((0 : Int) = (0 : Int) /\ (0 : Int) = (0 : Int) /\ (0 : Int) = (0 : Int) /\ (0 : Int) = (0 : Int) /\ True) /\ (limb v4.snd.fst 0 = limb x18.snd.fst 0 /\ limb v4.snd.fst 1 = limb x18.snd.fst 1 /\ limb v4.snd.fst 2 = limb x18.snd.fst 2 /\ limb v4.snd.fst 3 = limb x18.snd.fst 3 /\ True) /\ (limb v4.snd.snd.fst 0 = limb x18.snd.snd.fst 0 /\ limb v4.snd.snd.fst 1 = limb x18.snd.snd.fst 1 /\ limb v4.snd.snd.fst 2 = limb x18.snd.snd.fst 2 /\ limb v4.snd.snd.fst 3 = limb x18.snd.snd.fst 3 /\ True) /\ (v4.snd.snd.snd = x18.snd.snd.snd /\ True) /\ (e0 = e0 /\ e1 = e1 /\ e2 = e2 /\ e3 = e3 /\ True) /\ True /\ ((True /\ True /\ True /\ True /\ True /\ True /\ True /\ True) /\ sameCode (rfAt Try.prog 20 0).fst (rfAt Try.prog 20 0).fst /\ sameCode (rfAt Try.prog 20 0).snd (rfAt Try.prog 20 0).snd) /\ True) /\ (v2 - x18.fst).toNat < (v2 - v4.fst).toNat)) /\ (v5 = false -> (IntKind.u64 = IntKind.u64 /\ limb v4.snd.fst 0 = limb (powF (val4 a0 a1 a2 a3) (val4 e0 e1 e2 e3) (val4 m0 m1 m2 m3)) 0) /\ (IntKind.u64 = IntKind.u64 /\ limb v4.snd.fst 1 = limb (powF (val4 a0 a1 a2 a3) (val4 e0 e1 e2 e3) (val4 m0 m1 m2 m3)) 1) /\ (IntKind.u64 = IntKind.u64 /\ limb v4.snd.fst 2 = limb (powF (val4 a0 a1 a2 a3) (val4 e0 e1 e2 e3) (val4 m0 m1 m2 m3)) 2) /\ (IntKind.u64 = IntKind.u64 /\ limb v4.snd.fst 3 = limb (powF (val4 a0 a1 a2 a3) (val4 e0 e1 e2 e3) (val4 m0 m1 m2 m3)) 3) /\ True)
theorem tieMPow (w0 : World) (a0 : Int) (a1 : Int) (a2 : Int) (a3 : Int) (e0 : Int) (e1 : Int) (e2 : Int) (e3 : Int) (m0 : Int) (m1 : Int) (m2 : Int) (m3 : Int) : VCMPow a0 a1 a2 a3 e0 e1 e2 e3 m0 m1 m2 m3 = ((recN (GL Try.prog md4Spec md4AnnSpec md4CutSpec w0) 40).call 20 [.agg [.int .u64 (.sym a0), .int .u64 (.sym a1), .int .u64 (.sym a2), .int .u64 (.sym a3)], .agg [.int .u64 (.sym e0), .int .u64 (.sym e1), .int .u64 (.sym e2), .int .u64 (.sym e3)], .agg [.int .u64 (.sym m0), .int .u64 (.sym m1), .int .u64 (.sym m2), .int .u64 (.sym m3)]] [] (fun r__ _ => eqV r__ (.agg [.int .u64 (.sym (limb (powF (val4 a0 a1 a2 a3) (val4 e0 e1 e2 e3) (val4 m0 m1 m2 m3)) 0)), .int .u64 (.sym (limb (powF (val4 a0 a1 a2 a3) (val4 e0 e1 e2 e3) (val4 m0 m1 m2 m3)) 1)), .int .u64 (.sym (limb (powF (val4 a0 a1 a2 a3) (val4 e0 e1 e2 e3) (val4 m0 m1 m2 m3)) 2)), .int .u64 (.sym (limb (powF (val4 a0 a1 a2 a3) (val4 e0 e1 e2 e3) (val4 m0 m1 m2 m3)) 3))]))) := by kernel_rfl
theorem pureMPow (a0 a1 a2 a3 e0 e1 e2 e3 m0 m1 m2 m3 : Int) (h : U64 a0 ∧ U64 a1 ∧ U64 a2 ∧ U64 a3 ∧ U64 e0 ∧ U64 e1 ∧ U64 e2 ∧ U64 e3 ∧ U64 m0 ∧ U64 m1 ∧ U64 m2 ∧ U64 m3) : VCMPow a0 a1 a2 a3 e0 e1 e2 e3 m0 m1 m2 m3 := by
  obtain ⟨ha0, ha1, ha2, ha3, he0, he1, he2, he3, hm0, hm1, hm2, hm3⟩ := h
  have ba := val4_lt ha0 ha1 ha2 ha3
  have be := val4_lt he0 he1 he2 he3
  have bm := val4_lt hm0 hm1 hm2 hm3
  have la := limbs4' ha0 ha1 ha2 ha3
  refine ⟨⟨U64_1, U64_0, U64_0, U64_0, U64_0, U64_0, U64_0, U64_0, hm0, hm1, hm2, hm3⟩, fun v1 h1 => ⟨⟨he0, he1, he2, he3⟩, fun v2 h2 => ?_⟩⟩
  have ll := lenF_lt be.1
  have lb := (lenF_bound be.1 256 (by have := be.2; exact this)).2
  rw [← h2] at ll lb
  have t4 : ∀ {x : Int}, x = x ∧ True := fun {x} => ⟨rfl, trivial⟩
  refine ⟨⟨(0, v1, val4 a0 a1 a2 a3, 0), ⟨h2, ⟨Int.le_refl _, ll.1⟩, ⟨Int.le_refl _, Int.le_refl _⟩, ?_, rfl⟩, ⟨trivial, trivial, rfl, rfl, trivial⟩, ⟨rfl, rfl, rfl, rfl, trivial⟩, ⟨rfl, rfl, rfl, rfl, trivial⟩, ⟨rfl, rfl, rfl, rfl, trivial⟩, ⟨rfl, rfl, rfl, rfl, trivial⟩, ⟨rfl, rfl, rfl, rfl, trivial⟩, ⟨la.1.symm, la.2.1.symm, la.2.2.1.symm, la.2.2.2.symm, trivial⟩, ⟨rfl, trivial⟩, ⟨rfl, rfl, rfl, rfl, trivial⟩, trivial, ⟨⟨trivial, trivial, trivial, trivial, trivial, trivial, trivial, trivial⟩, rfl, rfl⟩, trivial⟩, fun ⟨i, out, sq, at_⟩ hp => ?_⟩
  · rw [h1, rF_mod]
    show modF 1 _ = modF _ _
    simp
  dsimp only at hp ⊢
  obtain ⟨_, ⟨i0, i1⟩, ⟨t0, t1⟩, ho, hs⟩ := hp
  have bo := powF_in (a := val4 a0 a1 a2 a3) (e := val4 e0 e1 e2 e3 % 2 ^ i.toNat) bm
  have bs := sqF_in (n := at_) ba bm
  rw [← ho] at bo
  rw [← hs] at bs
  refine br (fun e5 => ⟨⟨he0, he1, he2, he3, by unfold I64; omega⟩, fun v6 h6 => ?_⟩) fun e5 => limb_eq ?_
  · have hb : v6 = val4 e0 e1 e2 e3 / 2 ^ i.toNat % 2 := by rw [h6]; unfold bitF; rw [if_neg (by omega)]
    refine brE (fun e7 => ⟨⟨(sq, at_), ⟨hs, Int.le_refl _, t1⟩, ⟨trivial, trivial, trivial, trivial, trivial, trivial, trivial, rfl, trivial⟩, ⟨rfl, rfl, rfl, rfl, trivial⟩, ⟨rfl, rfl, rfl, rfl, trivial⟩, ⟨rfl, rfl, rfl, rfl, trivial⟩, ⟨rfl, rfl, rfl, rfl, trivial⟩, ⟨rfl, rfl, rfl, rfl, trivial⟩, ⟨rfl, rfl, rfl, rfl, trivial⟩, ⟨rfl, trivial⟩, ⟨rfl, rfl, rfl, rfl, trivial⟩, trivial, ⟨⟨trivial, trivial, trivial, trivial, trivial, trivial, trivial, trivial⟩, rfl, rfl⟩, trivial⟩, fun ⟨s, k⟩ hk => ?_⟩) fun e7 => ?_
    · dsimp only at hk ⊢
      obtain ⟨k0, k1, k2⟩ := hk
      have bk := sqF_in (n := k) ba bm
      rw [← k0] at bk
      refine br (fun e10 => ⟨⟨limb_in .., limb_in .., limb_in .., limb_in .., limb_in .., limb_in .., limb_in .., limb_in .., hm0, hm1, hm2, hm3⟩, fun v11 h11 v12 h12 => ?_⟩) fun e10 => ⟨⟨limb_in .., limb_in .., limb_in .., limb_in .., limb_in .., limb_in .., limb_in .., limb_in .., hm0, hm1, hm2, hm3⟩, fun v14 h14 v15 h15 => ?_⟩
      · rw [val4_limb' bk.1 bk.2, k0, sqF_step (by omega)] at h11
        rw [i64_id (by omega) (by omega)] at h12
        refine ⟨(v11, v12), ⟨by rw [h11, h12], by dsimp only; omega, by dsimp only; omega⟩, ⟨⟨trivial, trivial, trivial, trivial, trivial, trivial, trivial, rfl, trivial⟩, ⟨rfl, rfl, rfl, rfl, trivial⟩, ⟨rfl, rfl, rfl, rfl, trivial⟩, ⟨rfl, rfl, rfl, rfl, trivial⟩, ⟨rfl, rfl, rfl, rfl, trivial⟩, ⟨rfl, rfl, rfl, rfl, trivial⟩, ⟨rfl, rfl, rfl, rfl, trivial⟩, ⟨rfl, trivial⟩, ⟨rfl, rfl, rfl, rfl, trivial⟩, trivial, ⟨⟨trivial, trivial, trivial, trivial, trivial, trivial, trivial, trivial⟩, rfl, rfl⟩, trivial⟩, by dsimp only; omega⟩
      · have ek : k = i := by omega
        subst ek
        rw [val4_limb' bk.1 bk.2, val4_limb' bo.1 bo.2, ho, k0, powF_set i0 (by omega)] at h14
        rw [i64_id (by omega) (by omega)] at h15
        refine ⟨(v15, v14, s, k), ⟨h2, ⟨by dsimp only; omega, by dsimp only; omega⟩, ⟨i0, by dsimp only; omega⟩, by dsimp only; rw [h14, h15], k0⟩, ⟨⟨trivial, trivial, rfl, rfl, trivial⟩, ⟨rfl, rfl, rfl, rfl, trivial⟩, ⟨rfl, rfl, rfl, rfl, trivial⟩, ⟨rfl, rfl, rfl, rfl, trivial⟩, ⟨rfl, rfl, rfl, rfl, trivial⟩, ⟨rfl, rfl, rfl, rfl, trivial⟩, ⟨rfl, rfl, rfl, rfl, trivial⟩, ⟨rfl, trivial⟩, ⟨rfl, rfl, rfl, rfl, trivial⟩, trivial, ⟨⟨trivial, trivial, trivial, trivial, trivial, trivial, trivial, trivial⟩, rfl, rfl⟩, trivial⟩, by dsimp only; omega⟩
    · intro v17 h17
      rw [i64_id (by omega) (by omega)] at h17
      have hz : val4 e0 e1 e2 e3 / 2 ^ i.toNat % 2 = 0 := by omega
      refine ⟨(v17, out, sq, at_), ⟨h2, ⟨by dsimp only; omega, by dsimp only; omega⟩, ⟨t0, by dsimp only; omega⟩, by dsimp only; rw [ho, h17, powF_unset i0 hz], hs⟩, ⟨⟨trivial, trivial, rfl, rfl, trivial⟩, ⟨rfl, rfl, rfl, rfl, trivial⟩, ⟨rfl, rfl, rfl, rfl, trivial⟩, ⟨rfl, rfl, rfl, rfl, trivial⟩, ⟨rfl, rfl, rfl, rfl, trivial⟩, ⟨rfl, rfl, rfl, rfl, trivial⟩, ⟨rfl, rfl, rfl, rfl, trivial⟩, ⟨rfl, trivial⟩, ⟨rfl, rfl, rfl, rfl, trivial⟩, trivial, ⟨⟨trivial, trivial, trivial, trivial, trivial, trivial, trivial, trivial⟩, rfl, rfl⟩, trivial⟩, by dsimp only; omega⟩
  · have : i = v2 := by omega
    subst this
    rw [ho, Int.emod_eq_of_lt be.1 ll.2]
theorem mPow_ok : SpecOk Try.prog 20 mPowSpec := by
  intro args k h
  unfold mPowSpec at h
  split at h
  · rename_i a0 a1 a2 a3 e0 e1 e2 e3 m0 m1 m2 m3
    obtain ⟨hr, h⟩ := h
    exact ⟨_, h _ rfl, PureOk.of_tie (GL Try.prog md4Spec md4AnnSpec md4CutSpec) (fun w__ => gokL w__ namesOk_ mixed_ md4_ok) (fun _ => rfl) (fun _ => rfl) (args' := [.agg [.int .u64 (.sym a0.val), .int .u64 (.sym a1.val), .int .u64 (.sym a2.val), .int .u64 (.sym a3.val)], .agg [.int .u64 (.sym e0.val), .int .u64 (.sym e1.val), .int .u64 (.sym e2.val), .int .u64 (.sym e3.val)], .agg [.int .u64 (.sym m0.val), .int .u64 (.sym m1.val), .int .u64 (.sym m2.val), .int .u64 (.sym m3.val)]]) ⟨⟨⟨rfl, rfl⟩, ⟨rfl, rfl⟩, ⟨rfl, rfl⟩, ⟨rfl, rfl⟩, trivial⟩, ⟨⟨rfl, rfl⟩, ⟨rfl, rfl⟩, ⟨rfl, rfl⟩, ⟨rfl, rfl⟩, trivial⟩, ⟨⟨rfl, rfl⟩, ⟨rfl, rfl⟩, ⟨rfl, rfl⟩, ⟨rfl, rfl⟩, trivial⟩, trivial⟩ 40 (fun w__ => VCMPow a0.val a1.val a2.val a3.val e0.val e1.val e2.val e3.val m0.val m1.val m2.val m3.val) (fun w__ => tieMPow w__ a0.val a1.val a2.val a3.val e0.val e1.val e2.val e3.val m0.val m1.val m2.val m3.val) (fun w__ => pureMPow a0.val a1.val a2.val a3.val e0.val e1.val e2.val e3.val m0.val m1.val m2.val m3.val hr)⟩
  · exact h.elim

end Go.Proofs.Ytaaobpalpcdlbaa.Bits
