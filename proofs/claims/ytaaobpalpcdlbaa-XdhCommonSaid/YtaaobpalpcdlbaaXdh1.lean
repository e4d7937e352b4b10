import Derived.Test.YtaaobpalpcdlbaaSxN
import Derived.Test.YtaaobpalpcdlbaaSxP
import Derived.Test.YtaaobpalpcdlbaaSxR
import Derived.Test.YtaaobpalpcdlbaaProg
import Derived.Test.YtaaobpalpcdlbaaStr1
import Derived.Test.YtaaobpalpcdlbaaRef4
import Derived.Test.YtaaobpalpcdlbaaEcG
import Derived.KernelRfl
namespace Go.Proofs.Ytaaobpalpcdlbaa.Bits
open Go Go.Sx Go.RowKit Go.EC
set_option linter.unusedVariables false
set_option maxRecDepth 100000
def clF (n : Int) : Int := n % 28948022309329048855892746252171976963317496166410141009864396001978282409984 / 8 * 8 + 28948022309329048855892746252171976963317496166410141009864396001978282409984
def cvF (s : ByteArray) : Int := if (s.size : Int) = 32 then clF (leF s) else 0
def coF (s : ByteArray) : Int := if (s.size : Int) = 32 then leF s % 57896044618658097711785492504343953926634992332820282019728792003956564819968 % 57896044618658097711785492504343953926634992332820282019728792003956564819949 else 0
def xd1Spec : List (FuncId × CSpec) := [(24, mMulSpec), (31, mAddSpec), (32, mSubSpec), (23, remSpec), (39, r2MulSpec), (37, r2AddSpec), (38, r2SubSpec), (36, rRemSpec), (87, fromLittleSpec), (47, rFromLittleSpec)]
theorem xd1_ok : SpecsOk Try.prog xd1Spec := ⟨mMul_ok, mAdd_ok, mSub_ok, rem_ok, r2Mul_ok, r2Add_ok, r2Sub_ok, rRem_ok, fromLittle_ok, rFromLittle_ok, trivial⟩
theorem an_gen (k : IntKind) (x m : Int) : bitI .andNot k x m = k.wrap ((natOf k x &&& (2 ^ k.bits - 1 - natOf k m) : Nat) : Int) := by
  simp only [bitI, BitVec.toNat_and, BitVec.toNat_not, BitVec.toNat_ofInt, natOf]
theorem an_eq (x m : Int) : bitI .andNot .u64 x m = IntKind.u64.wrap ((natOf .u64 x &&& (2 ^ 64 - 1 - natOf .u64 m) : Nat) : Int) := an_gen .u64 x m
theorem an7 {x : Int} (hx : U64 x) : bitI .andNot .u64 x 7 = x - x % 8 := by
  unfold U64 at hx
  rw [an_eq, natOf_id (k := .u64) hx.1 (by simp only [IntKind.bits]; omega), show natOf .u64 7 = 7 from by decide +kernel]
  obtain ⟨n, rfl⟩ := Int.eq_ofNat_of_zero_le hx.1
  rw [Int.toNat_natCast]
  have e1 := Nat.and_div_two_pow (a := n) (b := 2 ^ 64 - 1 - 7) (n := 3)
  have e2 := Nat.and_mod_two_pow (a := n) (b := 2 ^ 64 - 1 - 7) (n := 3)
  have k1 : (2 ^ 64 - 1 - 7 : Nat) / 2 ^ 3 = 2 ^ 61 - 1 := by decide +kernel
  have k2 : (2 ^ 64 - 1 - 7 : Nat) % 2 ^ 3 = 0 := by decide +kernel
  rw [k1, and_mask] at e1
  rw [k2, Nat.and_zero] at e2
  generalize n &&& (2 ^ 64 - 1 - 7) = c at *
  rw [u64_id (by omega) (by omega)]
  omega
theorem anTop {x : Int} (hx : U64 x) : bitI .andNot .u64 x 9223372036854775808 = x % 9223372036854775808 := by
  unfold U64 at hx
  rw [an_eq, natOf_id (k := .u64) hx.1 (by simp only [IntKind.bits]; omega), show natOf .u64 9223372036854775808 = 9223372036854775808 from by decide +kernel]
  obtain ⟨n, rfl⟩ := Int.eq_ofNat_of_zero_le hx.1
  rw [Int.toNat_natCast, show (2 ^ 64 - 1 - 9223372036854775808 : Nat) = 2 ^ 63 - 1 from by decide +kernel, and_mask, u64_id (by omega) (by omega)]
  omega
theorem orBit {y : Int} (h0 : 0 ≤ y) (h1 : y < 9223372036854775808) : bitI .or .u64 y 4611686018427387904 = y % 4611686018427387904 + 4611686018427387904 := by
  rw [bit_or, natOf_id (k := .u64) h0 (by simp only [IntKind.bits]; omega), show natOf .u64 4611686018427387904 = 2 ^ 62 from by decide +kernel]
  obtain ⟨n, rfl⟩ := Int.eq_ofNat_of_zero_le h0
  rw [Int.toNat_natCast]
  have e1 := Nat.or_div_two_pow (a := n) (b := 2 ^ 62) (n := 62)
  have e2 := Nat.or_mod_two_pow (a := n) (b := 2 ^ 62) (n := 62)
  have k1 : (2 ^ 62 : Nat) / 2 ^ 62 = 1 := by decide +kernel
  have k2 : (2 ^ 62 : Nat) % 2 ^ 62 = 0 := by decide +kernel
  have k3 : n / 2 ^ 62 ||| 1 = 1 := by
    have : n / 2 ^ 62 = 0 ∨ n / 2 ^ 62 = 1 := by omega
    rcases this with z | z <;> rw [z] <;> decide
  rw [k1, k3] at e1
  rw [k2, Nat.or_zero] at e2
  generalize n ||| 2 ^ 62 = c at *
  rw [u64_id (by omega) (by omega)]
  omega
theorem lv5 {v : Int} (h : inP5 v) : val4 (limb v 0) (limb v 1) (limb v 2) (limb v 3) = v := by
  have h2 : v < 57896044618658097711785492504343953926634992332820282019728792003956564819949 := h.2
  exact val4_limb' h.1 (by omega)
theorem modP5 (x : Int) : modF x 57896044618658097711785492504343953926634992332820282019728792003956564819949 = x % P5 := by unfold modF; rw [if_neg (by decide)]
theorem m5 : U64 18446744073709551597 ∧ U64 18446744073709551615 ∧ U64 18446744073709551615 ∧ U64 9223372036854775807 := by decide
theorem erF_ne {n : Int} : erF n 32 ≠ 0 ↔ n ≠ 32 := by unfold erF; split <;> (try split) <;> omega
theorem cl_limbs (n : Int) : limb n 0 - limb n 0 % 8 = limb (clF n) 0 ∧ limb n 1 = limb (clF n) 1 ∧ limb n 2 = limb (clF n) 2 ∧ limb n 3 % 9223372036854775808 % 4611686018427387904 + 4611686018427387904 = limb (clF n) 3 := by
  obtain ⟨a0, a1, a2, a3⟩ := limbE n
  obtain ⟨b0, b1, b2, b3⟩ := limbE (clF n)
  rw [a0, a1, a2, a3, b0, b1, b2, b3]
  unfold clF
  refine ⟨?_, ?_, ?_, ?_⟩ <;> omega
theorem co_val (n : Int) : val4 (limb n 0) (limb n 1) (limb n 2) (limb n 3 % 9223372036854775808) = n % 57896044618658097711785492504343953926634992332820282019728792003956564819968 := by
  obtain ⟨a0, a1, a2, a3⟩ := limbE n
  rw [a0, a1, a2, a3]
  unfold val4; omega
def timesSpec : CSpec
  | [.agg [.int .u64 a0, .int .u64 a1, .int .u64 a2, .int .u64 a3], .agg [.int .u64 b0, .int .u64 b1, .int .u64 b2, .int .u64 b3]], k => ((U64 a0.val) ∧ (U64 a1.val) ∧ (U64 a2.val) ∧ (U64 a3.val) ∧ (U64 b0.val) ∧ (U64 b1.val) ∧ (U64 b2.val) ∧ (U64 b3.val)) ∧ (∀ r0 : Int, r0 = (t5 (val4 a0.val a1.val a2.val a3.val) (val4 b0.val b1.val b2.val b3.val)) → k (.agg [.int .u64 (.sym (limb r0 0)), .int .u64 (.sym (limb r0 1)), .int .u64 (.sym (limb r0 2)), .int .u64 (.sym (limb r0 3))]))
  | _, _ => False
def VCTimes (a0 : Int) (a1 : Int) (a2 : Int) (a3 : Int) (b0 : Int) (b1 : Int) (b2 : Int) (b3 : Int) : Prop :=
  (U64 a0 /\ U64 a1 /\ U64 a2 /\ U64 a3 /\ U64 b0 /\ U64 b1 /\ U64 b2 /\ U64 b3 /\ U64 18446744073709551597 /\ U64 18446744073709551615 /\ U64 18446744073709551615 /\ U64 9223372036854775807) /\ ∀ v1, v1 = modF (val4 a0 a1 a2 a3 * val4 b0 b1 b2 b3) (57896044618658097711785492504343953926634992332820282019728792003956564819949 : Int) -> (IntKind.u64 = IntKind.u64 /\ limb v1 0 = limb (t5 (val4 a0 a1 a2 a3) (val4 b0 b1 b2 b3)) 0) /\ (IntKind.u64 = IntKind.u64 /\ limb v1 1 = limb (t5 (val4 a0 a1 a2 a3) (val4 b0 b1 b2 b3)) 1) /\ (IntKind.u64 = IntKind.u64 /\ limb v1 2 = limb (t5 (val4 a0 a1 a2 a3) (val4 b0 b1 b2 b3)) 2) /\ (IntKind.u64 = IntKind.u64 /\ limb v1 3 = limb (t5 (val4 a0 a1 a2 a3) (val4 b0 b1 b2 b3)) 3) /\ True
theorem tieTimes (w0 : World) (a0 : Int) (a1 : Int) (a2 : Int) (a3 : Int) (b0 : Int) (b1 : Int) (b2 : Int) (b3 : Int) : VCTimes a0 a1 a2 a3 b0 b1 b2 b3 = ((recN (GC Try.prog xd1Spec w0) 40).call 99 [.agg [.int .u64 (.sym a0), .int .u64 (.sym a1), .int .u64 (.sym a2), .int .u64 (.sym a3)], .agg [.int .u64 (.sym b0), .int .u64 (.sym b1), .int .u64 (.sym b2), .int .u64 (.sym b3)]] [] (fun r__ _ => eqV r__ (.agg [.int .u64 (.sym (limb (t5 (val4 a0 a1 a2 a3) (val4 b0 b1 b2 b3)) 0)), .int .u64 (.sym (limb (t5 (val4 a0 a1 a2 a3) (val4 b0 b1 b2 b3)) 1)), .int .u64 (.sym (limb (t5 (val4 a0 a1 a2 a3) (val4 b0 b1 b2 b3)) 2)), .int .u64 (.sym (limb (t5 (val4 a0 a1 a2 a3) (val4 b0 b1 b2 b3)) 3))]))) := by kernel_rfl
theorem pureTimes (a0 a1 a2 a3 b0 b1 b2 b3 : Int) (h : U64 a0 ∧ U64 a1 ∧ U64 a2 ∧ U64 a3 ∧ U64 b0 ∧ U64 b1 ∧ U64 b2 ∧ U64 b3) : VCTimes a0 a1 a2 a3 b0 b1 b2 b3 := by
  obtain ⟨ha0, ha1, ha2, ha3, hb0, hb1, hb2, hb3⟩ := h
  obtain ⟨q0, q1, q2, q3⟩ := m5
  exact ⟨⟨ha0, ha1, ha2, ha3, hb0, hb1, hb2, hb3, q0, q1, q2, q3⟩, fun v1 h1 => limb_eq (by rw [h1, modP5]; rfl)⟩
theorem times_ok : SpecOk Try.prog 99 timesSpec := by
  intro args k h
  unfold timesSpec at h
  split at h
  · rename_i a0 a1 a2 a3 b0 b1 b2 b3
    obtain ⟨hr, h⟩ := h
    exact ⟨_, h _ rfl, PureOk.of_tie (GC Try.prog xd1Spec) (fun w__ => gok w__ namesOk_ mixed_ xd1_ok) (fun _ => rfl) (fun _ => rfl) (args' := [.agg [.int .u64 (.sym a0.val), .int .u64 (.sym a1.val), .int .u64 (.sym a2.val), .int .u64 (.sym a3.val)], .agg [.int .u64 (.sym b0.val), .int .u64 (.sym b1.val), .int .u64 (.sym b2.val), .int .u64 (.sym b3.val)]]) ⟨⟨⟨rfl, rfl⟩, ⟨rfl, rfl⟩, ⟨rfl, rfl⟩, ⟨rfl, rfl⟩, trivial⟩, ⟨⟨rfl, rfl⟩, ⟨rfl, rfl⟩, ⟨rfl, rfl⟩, ⟨rfl, rfl⟩, trivial⟩, trivial⟩ 40 (fun w__ => VCTimes a0.val a1.val a2.val a3.val b0.val b1.val b2.val b3.val) (fun w__ => tieTimes w__ a0.val a1.val a2.val a3.val b0.val b1.val b2.val b3.val) (fun w__ => pureTimes a0.val a1.val a2.val a3.val b0.val b1.val b2.val b3.val hr)⟩
  · exact h.elim

def plusSpec : CSpec
  | [.agg [.int .u64 a0, .int .u64 a1, .int .u64 a2, .int .u64 a3], .agg [.int .u64 b0, .int .u64 b1, .int .u64 b2, .int .u64 b3]], k => ((U64 a0.val) ∧ (U64 a1.val) ∧ (U64 a2.val) ∧ (U64 a3.val) ∧ (U64 b0.val) ∧ (U64 b1.val) ∧ (U64 b2.val) ∧ (U64 b3.val)) ∧ (∀ r0 : Int, r0 = (a5 (val4 a0.val a1.val a2.val a3.val) (val4 b0.val b1.val b2.val b3.val)) → k (.agg [.int .u64 (.sym (limb r0 0)), .int .u64 (.sym (limb r0 1)), .int .u64 (.sym (limb r0 2)), .int .u64 (.sym (limb r0 3))]))
  | _, _ => False
def VCPlus (a0 : Int) (a1 : Int) (a2 : Int) (a3 : Int) (b0 : Int) (b1 : Int) (b2 : Int) (b3 : Int) : Prop :=
  (U64 a0 /\ U64 a1 /\ U64 a2 /\ U64 a3 /\ U64 b0 /\ U64 b1 /\ U64 b2 /\ U64 b3 /\ U64 18446744073709551597 /\ U64 18446744073709551615 /\ U64 18446744073709551615 /\ U64 9223372036854775807) /\ ∀ v1, v1 = modF (val4 a0 a1 a2 a3 + val4 b0 b1 b2 b3) (57896044618658097711785492504343953926634992332820282019728792003956564819949 : Int) -> (IntKind.u64 = IntKind.u64 /\ limb v1 0 = limb (a5 (val4 a0 a1 a2 a3) (val4 b0 b1 b2 b3)) 0) /\ (IntKind.u64 = IntKind.u64 /\ limb v1 1 = limb (a5 (val4 a0 a1 a2 a3) (val4 b0 b1 b2 b3)) 1) /\ (IntKind.u64 = IntKind.u64 /\ limb v1 2 = limb (a5 (val4 a0 a1 a2 a3) (val4 b0 b1 b2 b3)) 2) /\ (IntKind.u64 = IntKind.u64 /\ limb v1 3 = limb (a5 (val4 a0 a1 a2 a3) (val4 b0 b1 b2 b3)) 3) /\ True
theorem tiePlus (w0 : World) (a0 : Int) (a1 : Int) (a2 : Int) (a3 : Int) (b0 : Int) (b1 : Int) (b2 : Int) (b3 : Int) : VCPlus a0 a1 a2 a3 b0 b1 b2 b3 = ((recN (GC Try.prog xd1Spec w0) 40).call 100 [.agg [.int .u64 (.sym a0), .int .u64 (.sym a1), .int .u64 (.sym a2), .int .u64 (.sym a3)], .agg [.int .u64 (.sym b0), .int .u64 (.sym b1), .int .u64 (.sym b2), .int .u64 (.sym b3)]] [] (fun r__ _ => eqV r__ (.agg [.int .u64 (.sym (limb (a5 (val4 a0 a1 a2 a3) (val4 b0 b1 b2 b3)) 0)), .int .u64 (.sym (limb (a5 (val4 a0 a1 a2 a3) (val4 b0 b1 b2 b3)) 1)), .int .u64 (.sym (limb (a5 (val4 a0 a1 a2 a3) (val4 b0 b1 b2 b3)) 2)), .int .u64 (.sym (limb (a5 (val4 a0 a1 a2 a3) (val4 b0 b1 b2 b3)) 3))]))) := by kernel_rfl
theorem purePlus (a0 a1 a2 a3 b0 b1 b2 b3 : Int) (h : U64 a0 ∧ U64 a1 ∧ U64 a2 ∧ U64 a3 ∧ U64 b0 ∧ U64 b1 ∧ U64 b2 ∧ U64 b3) : VCPlus a0 a1 a2 a3 b0 b1 b2 b3 := by
  obtain ⟨ha0, ha1, ha2, ha3, hb0, hb1, hb2, hb3⟩ := h
  obtain ⟨q0, q1, q2, q3⟩ := m5
  exact ⟨⟨ha0, ha1, ha2, ha3, hb0, hb1, hb2, hb3, q0, q1, q2, q3⟩, fun v1 h1 => limb_eq (by rw [h1, modP5]; rfl)⟩
theorem plus_ok : SpecOk Try.prog 100 plusSpec := by
  intro args k h
  unfold plusSpec at h
  split at h
  · rename_i a0 a1 a2 a3 b0 b1 b2 b3
    obtain ⟨hr, h⟩ := h
    exact ⟨_, h _ rfl, PureOk.of_tie (GC Try.prog xd1Spec) (fun w__ => gok w__ namesOk_ mixed_ xd1_ok) (fun _ => rfl) (fun _ => rfl) (args' := [.agg [.int .u64 (.sym a0.val), .int .u64 (.sym a1.val), .int .u64 (.sym a2.val), .int .u64 (.sym a3.val)], .agg [.int .u64 (.sym b0.val), .int .u64 (.sym b1.val), .int .u64 (.sym b2.val), .int .u64 (.sym b3.val)]]) ⟨⟨⟨rfl, rfl⟩, ⟨rfl, rfl⟩, ⟨rfl, rfl⟩, ⟨rfl, rfl⟩, trivial⟩, ⟨⟨rfl, rfl⟩, ⟨rfl, rfl⟩, ⟨rfl, rfl⟩, ⟨rfl, rfl⟩, trivial⟩, trivial⟩ 40 (fun w__ => VCPlus a0.val a1.val a2.val a3.val b0.val b1.val b2.val b3.val) (fun w__ => tiePlus w__ a0.val a1.val a2.val a3.val b0.val b1.val b2.val b3.val) (fun w__ => purePlus a0.val a1.val a2.val a3.val b0.val b1.val b2.val b3.val hr)⟩
  · exact h.elim

def xLessSpec : CSpec
  | [.agg [.int .u64 a0, .int .u64 a1, .int .u64 a2, .int .u64 a3], .agg [.int .u64 b0, .int .u64 b1, .int .u64 b2, .int .u64 b3]], k => ((U64 a0.val) ∧ (U64 a1.val) ∧ (U64 a2.val) ∧ (U64 a3.val) ∧ (U64 b0.val) ∧ (U64 b1.val) ∧ (U64 b2.val) ∧ (U64 b3.val)) ∧ (∀ r0 : Int, r0 = (s5 (val4 a0.val a1.val a2.val a3.val) (val4 b0.val b1.val b2.val b3.val)) → k (.agg [.int .u64 (.sym (limb r0 0)), .int .u64 (.sym (limb r0 1)), .int .u64 (.sym (limb r0 2)), .int .u64 (.sym (limb r0 3))]))
  | _, _ => False
def VCXLess (a0 : Int) (a1 : Int) (a2 : Int) (a3 : Int) (b0 : Int) (b1 : Int) (b2 : Int) (b3 : Int) : Prop :=
  (U64 a0 /\ U64 a1 /\ U64 a2 /\ U64 a3 /\ U64 b0 /\ U64 b1 /\ U64 b2 /\ U64 b3 /\ U64 18446744073709551597 /\ U64 18446744073709551615 /\ U64 18446744073709551615 /\ U64 9223372036854775807) /\ ∀ v1, v1 = modF (val4 a0 a1 a2 a3 - val4 b0 b1 b2 b3) (57896044618658097711785492504343953926634992332820282019728792003956564819949 : Int) -> (IntKind.u64 = IntKind.u64 /\ limb v1 0 = limb (s5 (val4 a0 a1 a2 a3) (val4 b0 b1 b2 b3)) 0) /\ (IntKind.u64 = IntKind.u64 /\ limb v1 1 = limb (s5 (val4 a0 a1 a2 a3) (val4 b0 b1 b2 b3)) 1) /\ (IntKind.u64 = IntKind.u64 /\ limb v1 2 = limb (s5 (val4 a0 a1 a2 a3) (val4 b0 b1 b2 b3)) 2) /\ (IntKind.u64 = IntKind.u64 /\ limb v1 3 = limb (s5 (val4 a0 a1 a2 a3) (val4 b0 b1 b2 b3)) 3) /\ True
theorem tieXLess (w0 : World) (a0 : Int) (a1 : Int) (a2 : Int) (a3 : Int) (b0 : Int) (b1 : Int) (b2 : Int) (b3 : Int) : VCXLess a0 a1 a2 a3 b0 b1 b2 b3 = ((recN (GC Try.prog xd1Spec w0) 40).call 163 [.agg [.int .u64 (.sym a0), .int .u64 (.sym a1), .int .u64 (.sym a2), .int .u64 (.sym a3)], .agg [.int .u64 (.sym b0), .int .u64 (.sym b1), .int .u64 (.sym b2), .int .u64 (.sym b3)]] [] (fun r__ _ => eqV r__ (.agg [.int .u64 (.sym (limb (s5 (val4 a0 a1 a2 a3) (val4 b0 b1 b2 b3)) 0)), .int .u64 (.sym (limb (s5 (val4 a0 a1 a2 a3) (val4 b0 b1 b2 b3)) 1)), .int .u64 (.sym (limb (s5 (val4 a0 a1 a2 a3) (val4 b0 b1 b2 b3)) 2)), .int .u64 (.sym (limb (s5 (val4 a0 a1 a2 a3) (val4 b0 b1 b2 b3)) 3))]))) := by kernel_rfl
theorem pureXLess (a0 a1 a2 a3 b0 b1 b2 b3 : Int) (h : U64 a0 ∧ U64 a1 ∧ U64 a2 ∧ U64 a3 ∧ U64 b0 ∧ U64 b1 ∧ U64 b2 ∧ U64 b3) : VCXLess a0 a1 a2 a3 b0 b1 b2 b3 := by
  obtain ⟨ha0, ha1, ha2, ha3, hb0, hb1, hb2, hb3⟩ := h
  obtain ⟨q0, q1, q2, q3⟩ := m5
  exact ⟨⟨ha0, ha1, ha2, ha3, hb0, hb1, hb2, hb3, q0, q1, q2, q3⟩, fun v1 h1 => limb_eq (by rw [h1, modP5]; rfl)⟩
theorem xLess_ok : SpecOk Try.prog 163 xLessSpec := by
  intro args k h
  unfold xLessSpec at h
  split at h
  · rename_i a0 a1 a2 a3 b0 b1 b2 b3
    obtain ⟨hr, h⟩ := h
    exact ⟨_, h _ rfl, PureOk.of_tie (GC Try.prog xd1Spec) (fun w__ => gok w__ namesOk_ mixed_ xd1_ok) (fun _ => rfl) (fun _ => rfl) (args' := [.agg [.int .u64 (.sym a0.val), .int .u64 (.sym a1.val), .int .u64 (.sym a2.val), .int .u64 (.sym a3.val)], .agg [.int .u64 (.sym b0.val), .int .u64 (.sym b1.val), .int .u64 (.sym b2.val), .int .u64 (.sym b3.val)]]) ⟨⟨⟨rfl, rfl⟩, ⟨rfl, rfl⟩, ⟨rfl, rfl⟩, ⟨rfl, rfl⟩, trivial⟩, ⟨⟨rfl, rfl⟩, ⟨rfl, rfl⟩, ⟨rfl, rfl⟩, ⟨rfl, rfl⟩, trivial⟩, trivial⟩ 40 (fun w__ => VCXLess a0.val a1.val a2.val a3.val b0.val b1.val b2.val b3.val) (fun w__ => tieXLess w__ a0.val a1.val a2.val a3.val b0.val b1.val b2.val b3.val) (fun w__ => pureXLess a0.val a1.val a2.val a3.val b0.val b1.val b2.val b3.val hr)⟩
  · exact h.elim

def rMul3Spec : CSpec
  | [.agg [.int .u64 a0, .int .u64 a1, .int .u64 a2, .int .u64 a3], .agg [.int .u64 b0, .int .u64 b1, .int .u64 b2, .int .u64 b3]], k => ((U64 a0.val) ∧ (U64 a1.val) ∧ (U64 a2.val) ∧ (U64 a3.val) ∧ (U64 b0.val) ∧ (U64 b1.val) ∧ (U64 b2.val) ∧ (U64 b3.val)) ∧ (∀ r0 : Int, r0 = (t5 (val4 a0.val a1.val a2.val a3.val) (val4 b0.val b1.val b2.val b3.val)) → k (.agg [.int .u64 (.sym (limb r0 0)), .int .u64 (.sym (limb r0 1)), .int .u64 (.sym (limb r0 2)), .int .u64 (.sym (limb r0 3))]))
  | _, _ => False
def VCRMul3 (a0 : Int) (a1 : Int) (a2 : Int) (a3 : Int) (b0 : Int) (b1 : Int) (b2 : Int) (b3 : Int) : Prop := VCTimes a0 a1 a2 a3 b0 b1 b2 b3
theorem tieRMul3 (w0 : World) (a0 : Int) (a1 : Int) (a2 : Int) (a3 : Int) (b0 : Int) (b1 : Int) (b2 : Int) (b3 : Int) : VCRMul3 a0 a1 a2 a3 b0 b1 b2 b3 = ((recN (GC Try.prog xd1Spec w0) 40).call 94 [.agg [.int .u64 (.sym a0), .int .u64 (.sym a1), .int .u64 (.sym a2), .int .u64 (.sym a3)], .agg [.int .u64 (.sym b0), .int .u64 (.sym b1), .int .u64 (.sym b2), .int .u64 (.sym b3)]] [] (fun r__ _ => eqV r__ (.agg [.int .u64 (.sym (limb (t5 (val4 a0 a1 a2 a3) (val4 b0 b1 b2 b3)) 0)), .int .u64 (.sym (limb (t5 (val4 a0 a1 a2 a3) (val4 b0 b1 b2 b3)) 1)), .int .u64 (.sym (limb (t5 (val4 a0 a1 a2 a3) (val4 b0 b1 b2 b3)) 2)), .int .u64 (.sym (limb (t5 (val4 a0 a1 a2 a3) (val4 b0 b1 b2 b3)) 3))]))) := by kernel_rfl
theorem pureRMul3 (a0 a1 a2 a3 b0 b1 b2 b3 : Int) (h : U64 a0 ∧ U64 a1 ∧ U64 a2 ∧ U64 a3 ∧ U64 b0 ∧ U64 b1 ∧ U64 b2 ∧ U64 b3) : VCRMul3 a0 a1 a2 a3 b0 b1 b2 b3 := by
  obtain ⟨ha0, ha1, ha2, ha3, hb0, hb1, hb2, hb3⟩ := h
  obtain ⟨q0, q1, q2, q3⟩ := m5
  exact ⟨⟨ha0, ha1, ha2, ha3, hb0, hb1, hb2, hb3, q0, q1, q2, q3⟩, fun v1 h1 => limb_eq (by rw [h1, modP5]; rfl)⟩
theorem rMul3_ok : SpecOk Try.prog 94 rMul3Spec := by
  intro args k h
  unfold rMul3Spec at h
  split at h
  · rename_i a0 a1 a2 a3 b0 b1 b2 b3
    obtain ⟨hr, h⟩ := h
    exact ⟨_, h _ rfl, PureOk.of_tie (GC Try.prog xd1Spec) (fun w__ => gok w__ namesOk_ mixed_ xd1_ok) (fun _ => rfl) (fun _ => rfl) (args' := [.agg [.int .u64 (.sym a0.val), .int .u64 (.sym a1.val), .int .u64 (.sym a2.val), .int .u64 (.sym a3.val)], .agg [.int .u64 (.sym b0.val), .int .u64 (.sym b1.val), .int .u64 (.sym b2.val), .int .u64 (.sym b3.val)]]) ⟨⟨⟨rfl, rfl⟩, ⟨rfl, rfl⟩, ⟨rfl, rfl⟩, ⟨rfl, rfl⟩, trivial⟩, ⟨⟨rfl, rfl⟩, ⟨rfl, rfl⟩, ⟨rfl, rfl⟩, ⟨rfl, rfl⟩, trivial⟩, trivial⟩ 40 (fun w__ => VCRMul3 a0.val a1.val a2.val a3.val b0.val b1.val b2.val b3.val) (fun w__ => tieRMul3 w__ a0.val a1.val a2.val a3.val b0.val b1.val b2.val b3.val) (fun w__ => pureRMul3 a0.val a1.val a2.val a3.val b0.val b1.val b2.val b3.val hr)⟩
  · exact h.elim

def rAdd3Spec : CSpec
  | [.agg [.int .u64 a0, .int .u64 a1, .int .u64 a2, .int .u64 a3], .agg [.int .u64 b0, .int .u64 b1, .int .u64 b2, .int .u64 b3]], k => ((U64 a0.val) ∧ (U64 a1.val) ∧ (U64 a2.val) ∧ (U64 a3.val) ∧ (U64 b0.val) ∧ (U64 b1.val) ∧ (U64 b2.val) ∧ (U64 b3.val)) ∧ (∀ r0 : Int, r0 = (a5 (val4 a0.val a1.val a2.val a3.val) (val4 b0.val b1.val b2.val b3.val)) → k (.agg [.int .u64 (.sym (limb r0 0)), .int .u64 (.sym (limb r0 1)), .int .u64 (.sym (limb r0 2)), .int .u64 (.sym (limb r0 3))]))
  | _, _ => False
def VCRAdd3 (a0 : Int) (a1 : Int) (a2 : Int) (a3 : Int) (b0 : Int) (b1 : Int) (b2 : Int) (b3 : Int) : Prop := VCPlus a0 a1 a2 a3 b0 b1 b2 b3
theorem tieRAdd3 (w0 : World) (a0 : Int) (a1 : Int) (a2 : Int) (a3 : Int) (b0 : Int) (b1 : Int) (b2 : Int) (b3 : Int) : VCRAdd3 a0 a1 a2 a3 b0 b1 b2 b3 = ((recN (GC Try.prog xd1Spec w0) 40).call 92 [.agg [.int .u64 (.sym a0), .int .u64 (.sym a1), .int .u64 (.sym a2), .int .u64 (.sym a3)], .agg [.int .u64 (.sym b0), .int .u64 (.sym b1), .int .u64 (.sym b2), .int .u64 (.sym b3)]] [] (fun r__ _ => eqV r__ (.agg [.int .u64 (.sym (limb (a5 (val4 a0 a1 a2 a3) (val4 b0 b1 b2 b3)) 0)), .int .u64 (.sym (limb (a5 (val4 a0 a1 a2 a3) (val4 b0 b1 b2 b3)) 1)), .int .u64 (.sym (limb (a5 (val4 a0 a1 a2 a3) (val4 b0 b1 b2 b3)) 2)), .int .u64 (.sym (limb (a5 (val4 a0 a1 a2 a3) (val4 b0 b1 b2 b3)) 3))]))) := by kernel_rfl
theorem pureRAdd3 (a0 a1 a2 a3 b0 b1 b2 b3 : Int) (h : U64 a0 ∧ U64 a1 ∧ U64 a2 ∧ U64 a3 ∧ U64 b0 ∧ U64 b1 ∧ U64 b2 ∧ U64 b3) : VCRAdd3 a0 a1 a2 a3 b0 b1 b2 b3 := by
  obtain ⟨ha0, ha1, ha2, ha3, hb0, hb1, hb2, hb3⟩ := h
  obtain ⟨q0, q1, q2, q3⟩ := m5
  exact ⟨⟨ha0, ha1, ha2, ha3, hb0, hb1, hb2, hb3, q0, q1, q2, q3⟩, fun v1 h1 => limb_eq (by rw [h1, modP5]; rfl)⟩
theorem rAdd3_ok : SpecOk Try.prog 92 rAdd3Spec := by
  intro args k h
  unfold rAdd3Spec at h
  split at h
  · rename_i a0 a1 a2 a3 b0 b1 b2 b3
    obtain ⟨hr, h⟩ := h
    exact ⟨_, h _ rfl, PureOk.of_tie (GC Try.prog xd1Spec) (fun w__ => gok w__ namesOk_ mixed_ xd1_ok) (fun _ => rfl) (fun _ => rfl) (args' := [.agg [.int .u64 (.sym a0.val), .int .u64 (.sym a1.val), .int .u64 (.sym a2.val), .int .u64 (.sym a3.val)], .agg [.int .u64 (.sym b0.val), .int .u64 (.sym b1.val), .int .u64 (.sym b2.val), .int .u64 (.sym b3.val)]]) ⟨⟨⟨rfl, rfl⟩, ⟨rfl, rfl⟩, ⟨rfl, rfl⟩, ⟨rfl, rfl⟩, trivial⟩, ⟨⟨rfl, rfl⟩, ⟨rfl, rfl⟩, ⟨rfl, rfl⟩, ⟨rfl, rfl⟩, trivial⟩, trivial⟩ 40 (fun w__ => VCRAdd3 a0.val a1.val a2.val a3.val b0.val b1.val b2.val b3.val) (fun w__ => tieRAdd3 w__ a0.val a1.val a2.val a3.val b0.val b1.val b2.val b3.val) (fun w__ => pureRAdd3 a0.val a1.val a2.val a3.val b0.val b1.val b2.val b3.val hr)⟩
  · exact h.elim

def rSub3Spec : CSpec
  | [.agg [.int .u64 a0, .int .u64 a1, .int .u64 a2, .int .u64 a3], .agg [.int .u64 b0, .int .u64 b1, .int .u64 b2, .int .u64 b3]], k => ((U64 a0.val) ∧ (U64 a1.val) ∧ (U64 a2.val) ∧ (U64 a3.val) ∧ (U64 b0.val) ∧ (U64 b1.val) ∧ (U64 b2.val) ∧ (U64 b3.val)) ∧ (∀ r0 : Int, r0 = (s5 (val4 a0.val a1.val a2.val a3.val) (val4 b0.val b1.val b2.val b3.val)) → k (.agg [.int .u64 (.sym (limb r0 0)), .int .u64 (.sym (limb r0 1)), .int .u64 (.sym (limb r0 2)), .int .u64 (.sym (limb r0 3))]))
  | _, _ => False
def VCRSub3 (a0 : Int) (a1 : Int) (a2 : Int) (a3 : Int) (b0 : Int) (b1 : Int) (b2 : Int) (b3 : Int) : Prop := VCXLess a0 a1 a2 a3 b0 b1 b2 b3
theorem tieRSub3 (w0 : World) (a0 : Int) (a1 : Int) (a2 : Int) (a3 : Int) (b0 : Int) (b1 : Int) (b2 : Int) (b3 : Int) : VCRSub3 a0 a1 a2 a3 b0 b1 b2 b3 = ((recN (GC Try.prog xd1Spec w0) 40).call 93 [.agg [.int .u64 (.sym a0), .int .u64 (.sym a1), .int .u64 (.sym a2), .int .u64 (.sym a3)], .agg [.int .u64 (.sym b0), .int .u64 (.sym b1), .int .u64 (.sym b2), .int .u64 (.sym b3)]] [] (fun r__ _ => eqV r__ (.agg [.int .u64 (.sym (limb (s5 (val4 a0 a1 a2 a3) (val4 b0 b1 b2 b3)) 0)), .int .u64 (.sym (limb (s5 (val4 a0 a1 a2 a3) (val4 b0 b1 b2 b3)) 1)), .int .u64 (.sym (limb (s5 (val4 a0 a1 a2 a3) (val4 b0 b1 b2 b3)) 2)), .int .u64 (.sym (limb (s5 (val4 a0 a1 a2 a3) (val4 b0 b1 b2 b3)) 3))]))) := by kernel_rfl
theorem pureRSub3 (a0 a1 a2 a3 b0 b1 b2 b3 : Int) (h : U64 a0 ∧ U64 a1 ∧ U64 a2 ∧ U64 a3 ∧ U64 b0 ∧ U64 b1 ∧ U64 b2 ∧ U64 b3) : VCRSub3 a0 a1 a2 a3 b0 b1 b2 b3 := by
  obtain ⟨ha0, ha1, ha2, ha3, hb0, hb1, hb2, hb3⟩ := h
  obtain ⟨q0, q1, q2, q3⟩ := m5
  exact ⟨⟨ha0, ha1, ha2, ha3, hb0, hb1, hb2, hb3, q0, q1, q2, q3⟩, fun v1 h1 => limb_eq (by rw [h1, modP5]; rfl)⟩
theorem rSub3_ok : SpecOk Try.prog 93 rSub3Spec := by
  intro args k h
  unfold rSub3Spec at h
  split at h
  · rename_i a0 a1 a2 a3 b0 b1 b2 b3
    obtain ⟨hr, h⟩ := h
    exact ⟨_, h _ rfl, PureOk.of_tie (GC Try.prog xd1Spec) (fun w__ => gok w__ namesOk_ mixed_ xd1_ok) (fun _ => rfl) (fun _ => rfl) (args' := [.agg [.int .u64 (.sym a0.val), .int .u64 (.sym a1.val), .int .u64 (.sym a2.val), .int .u64 (.sym a3.val)], .agg [.int .u64 (.sym b0.val), .int .u64 (.sym b1.val), .int .u64 (.sym b2.val), .int .u64 (.sym b3.val)]]) ⟨⟨⟨rfl, rfl⟩, ⟨rfl, rfl⟩, ⟨rfl, rfl⟩, ⟨rfl, rfl⟩, trivial⟩, ⟨⟨rfl, rfl⟩, ⟨rfl, rfl⟩, ⟨rfl, rfl⟩, ⟨rfl, rfl⟩, trivial⟩, trivial⟩ 40 (fun w__ => VCRSub3 a0.val a1.val a2.val a3.val b0.val b1.val b2.val b3.val) (fun w__ => tieRSub3 w__ a0.val a1.val a2.val a3.val b0.val b1.val b2.val b3.val) (fun w__ => pureRSub3 a0.val a1.val a2.val a3.val b0.val b1.val b2.val b3.val hr)⟩
  · exact h.elim

def squareSpec : CSpec
  | [.agg [.int .u64 a0, .int .u64 a1, .int .u64 a2, .int .u64 a3]], k => ((U64 a0.val) ∧ (U64 a1.val) ∧ (U64 a2.val) ∧ (U64 a3.val)) ∧ (∀ r0 : Int, r0 = (t5 (val4 a0.val a1.val a2.val a3.val) (val4 a0.val a1.val a2.val a3.val)) → k (.agg [.int .u64 (.sym (limb r0 0)), .int .u64 (.sym (limb r0 1)), .int .u64 (.sym (limb r0 2)), .int .u64 (.sym (limb r0 3))]))
  | _, _ => False
def VCSquare (a0 : Int) (a1 : Int) (a2 : Int) (a3 : Int) : Prop :=
  (U64 a0 /\ U64 a1 /\ U64 a2 /\ U64 a3 /\ U64 a0 /\ U64 a1 /\ U64 a2 /\ U64 a3 /\ U64 18446744073709551597 /\ U64 18446744073709551615 /\ U64 18446744073709551615 /\ U64 9223372036854775807) /\ ∀ v1, v1 = modF (val4 a0 a1 a2 a3 * val4 a0 a1 a2 a3) (57896044618658097711785492504343953926634992332820282019728792003956564819949 : Int) -> (IntKind.u64 = IntKind.u64 /\ limb v1 0 = limb (t5 (val4 a0 a1 a2 a3) (val4 a0 a1 a2 a3)) 0) /\ (IntKind.u64 = IntKind.u64 /\ limb v1 1 = limb (t5 (val4 a0 a1 a2 a3) (val4 a0 a1 a2 a3)) 1) /\ (IntKind.u64 = IntKind.u64 /\ limb v1 2 = limb (t5 (val4 a0 a1 a2 a3) (val4 a0 a1 a2 a3)) 2) /\ (IntKind.u64 = IntKind.u64 /\ limb v1 3 = limb (t5 (val4 a0 a1 a2 a3) (val4 a0 a1 a2 a3)) 3) /\ True
theorem tieSquare (w0 : World) (a0 : Int) (a1 : Int) (a2 : Int) (a3 : Int) : VCSquare a0 a1 a2 a3 = ((recN (GC Try.prog xd1Spec w0) 40).call 101 [.agg [.int .u64 (.sym a0), .int .u64 (.sym a1), .int .u64 (.sym a2), .int .u64 (.sym a3)]] [] (fun r__ _ => eqV r__ (.agg [.int .u64 (.sym (limb (t5 (val4 a0 a1 a2 a3) (val4 a0 a1 a2 a3)) 0)), .int .u64 (.sym (limb (t5 (val4 a0 a1 a2 a3) (val4 a0 a1 a2 a3)) 1)), .int .u64 (.sym (limb (t5 (val4 a0 a1 a2 a3) (val4 a0 a1 a2 a3)) 2)), .int .u64 (.sym (limb (t5 (val4 a0 a1 a2 a3) (val4 a0 a1 a2 a3)) 3))]))) := by kernel_rfl
theorem pureSquare (a0 a1 a2 a3 : Int) (h : U64 a0 ∧ U64 a1 ∧ U64 a2 ∧ U64 a3) : VCSquare a0 a1 a2 a3 := by
  obtain ⟨ha0, ha1, ha2, ha3⟩ := h
  obtain ⟨q0, q1, q2, q3⟩ := m5
  exact ⟨⟨ha0, ha1, ha2, ha3, ha0, ha1, ha2, ha3, q0, q1, q2, q3⟩, fun v1 h1 => limb_eq (by rw [h1, modP5]; rfl)⟩
theorem square_ok : SpecOk Try.prog 101 squareSpec := by
  intro args k h
  unfold squareSpec at h
  split at h
  · rename_i a0 a1 a2 a3
    obtain ⟨hr, h⟩ := h
    exact ⟨_, h _ rfl, PureOk.of_tie (GC Try.prog xd1Spec) (fun w__ => gok w__ namesOk_ mixed_ xd1_ok) (fun _ => rfl) (fun _ => rfl) (args' := [.agg [.int .u64 (.sym a0.val), .int .u64 (.sym a1.val), .int .u64 (.sym a2.val), .int .u64 (.sym a3.val)]]) ⟨⟨⟨rfl, rfl⟩, ⟨rfl, rfl⟩, ⟨rfl, rfl⟩, ⟨rfl, rfl⟩, trivial⟩, trivial⟩ 40 (fun w__ => VCSquare a0.val a1.val a2.val a3.val) (fun w__ => tieSquare w__ a0.val a1.val a2.val a3.val) (fun w__ => pureSquare a0.val a1.val a2.val a3.val hr)⟩
  · exact h.elim

theorem cvZ {s : ByteArray} (h : (s.size : Int) ≠ 32) : cvF s = 0 := by unfold cvF; rw [if_neg h]
theorem coZ {s : ByteArray} (h : (s.size : Int) ≠ 32) : coF s = 0 := by unfold coF; rw [if_neg h]
theorem er0 {s : ByteArray} (h : erF (s.size : Int) 32 = 0) : (s.size : Int) = 32 := by
  by_cases c : (s.size : Int) = 32
  · exact c
  · exact absurd h (erF_ne.2 c)
def clampSpec : CSpec
  | [.str s], k => (True) ∧ (∀ r0 : Int, r0 = (cvF s.val) → ∀ r1 : Int, r1 = (erF s.val.size 32) → k (.tup [.agg [.int .u64 (.sym (limb r0 0)), .int .u64 (.sym (limb r0 1)), .int .u64 (.sym (limb r0 2)), .int .u64 (.sym (limb r0 3))], .int .i64 (.sym r1)]))
  | _, _ => False
def VCClamp (s : ByteArray) : Prop :=
  True /\ ∀ v1, v1 = leF s -> ∀ v2, v2 = erF ↑s.size (32 : Int) -> ∀ v3, v3 = (v2 != (0 : Int)) -> (v3 = true -> ((IntKind.u64 = IntKind.u64 /\ 0 = limb (cvF s) 0) /\ (IntKind.u64 = IntKind.u64 /\ 0 = limb (cvF s) 1) /\ (IntKind.u64 = IntKind.u64 /\ 0 = limb (cvF s) 2) /\ (IntKind.u64 = IntKind.u64 /\ 0 = limb (cvF s) 3) /\ True) /\ (IntKind.i64 = IntKind.i64 /\ v2 = erF ↑s.size (32 : Int)) /\ True) /\ (v3 = false -> ∀ v4, v4 = bitI BinOp.andNot IntKind.u64 (limb v1 0) (7 : Int) -> ∀ v5, v5 = bitI BinOp.andNot IntKind.u64 (limb v1 3) (9223372036854775808 : Int) -> ∀ v6, v6 = bitI BinOp.or IntKind.u64 v5 (4611686018427387904 : Int) -> ((IntKind.u64 = IntKind.u64 /\ v4 = limb (cvF s) 0) /\ (IntKind.u64 = IntKind.u64 /\ limb v1 1 = limb (cvF s) 1) /\ (IntKind.u64 = IntKind.u64 /\ limb v1 2 = limb (cvF s) 2) /\ (IntKind.u64 = IntKind.u64 /\ v6 = limb (cvF s) 3) /\ True) /\ (IntKind.i64 = IntKind.i64 /\ (0 : Int) = erF ↑s.size (32 : Int)) /\ True)
theorem tieClamp (w0 : World) (s : ByteArray) : VCClamp s = ((recN (GC Try.prog xd1Spec w0) 40).call 40 [.str (.sym s)] [] (fun r__ _ => eqV r__ (.tup [.agg [.int .u64 (.sym (limb (cvF s) 0)), .int .u64 (.sym (limb (cvF s) 1)), .int .u64 (.sym (limb (cvF s) 2)), .int .u64 (.sym (limb (cvF s) 3))], .int .i64 (.sym (erF s.size 32))]))) := by kernel_rfl
theorem pureClamp (s : ByteArray) (h : True) : VCClamp s := by
  refine ⟨trivial, fun v1 h1 v2 h2 => brN (fun c => ?_) fun c v4 h4 v5 h5 v6 h6 => ?_⟩
  · rw [cvZ (erF_ne.1 (h2 ▸ c))]; exact ⟨limb00, ⟨rfl, h2⟩, trivial⟩
  · have e := er0 (h2 ▸ c)
    have ec : cvF s = clF v1 := by unfold cvF; rw [if_pos e, h1]
    obtain ⟨k0, k1, k2, k3⟩ := cl_limbs v1
    have l3 := limb_in v1 3
    rw [an7 (limb_in ..)] at h4
    rw [anTop (limb_in ..)] at h5
    rw [h5, orBit (by omega) (by omega)] at h6
    rw [ec]
    exact ⟨⟨⟨rfl, h4.trans k0⟩, ⟨rfl, k1⟩, ⟨rfl, k2⟩, ⟨rfl, h6.trans k3⟩, trivial⟩, ⟨rfl, c.symm.trans h2⟩, trivial⟩
theorem clamp_ok : SpecOk Try.prog 40 clampSpec := by
  intro args k h
  unfold clampSpec at h
  split at h
  · rename_i s
    obtain ⟨hr, h⟩ := h
    exact ⟨_, h _ rfl _ rfl, PureOk.of_tie (GC Try.prog xd1Spec) (fun w__ => gok w__ namesOk_ mixed_ xd1_ok) (fun _ => rfl) (fun _ => rfl) (args' := [.str (.sym s.val)]) ⟨rfl, trivial⟩ 40 (fun w__ => VCClamp s.val) (fun w__ => tieClamp w__ s.val) (fun w__ => pureClamp s.val hr)⟩
  · exact h.elim

def rClampSpec : CSpec
  | [.str s], k => (True) ∧ (∀ r0 : Int, r0 = (cvF s.val) → ∀ r1 : Int, r1 = (erF s.val.size 32) → k (.tup [.agg [.int .u64 (.sym (limb r0 0)), .int .u64 (.sym (limb r0 1)), .int .u64 (.sym (limb r0 2)), .int .u64 (.sym (limb r0 3))], .int .i64 (.sym r1)]))
  | _, _ => False
def VCRClamp (s : ByteArray) : Prop :=
  True /\ ∀ v1, v1 = leF s -> ∀ v2, v2 = erF ↑s.size (32 : Int) -> ∀ v3, v3 = (v2 != (0 : Int)) -> (v3 = true -> ((IntKind.u64 = IntKind.u64 /\ 0 = limb (cvF s) 0) /\ (IntKind.u64 = IntKind.u64 /\ 0 = limb (cvF s) 1) /\ (IntKind.u64 = IntKind.u64 /\ 0 = limb (cvF s) 2) /\ (IntKind.u64 = IntKind.u64 /\ 0 = limb (cvF s) 3) /\ True) /\ (IntKind.i64 = IntKind.i64 /\ v2 = erF ↑s.size (32 : Int)) /\ True) /\ (v3 = false -> ∀ v4, v4 = shrI IntKind.u64 (limb v1 0) (3 : Int) -> ∀ v5, v5 = shlI IntKind.u64 v4 (3 : Int) -> ∀ v6, v6 = bitI BinOp.and IntKind.u64 (limb v1 3) (9223372036854775807 : Int) -> ∀ v7, v7 = bitI BinOp.or IntKind.u64 v6 (4611686018427387904 : Int) -> ((IntKind.u64 = IntKind.u64 /\ v5 = limb (cvF s) 0) /\ (IntKind.u64 = IntKind.u64 /\ limb v1 1 = limb (cvF s) 1) /\ (IntKind.u64 = IntKind.u64 /\ limb v1 2 = limb (cvF s) 2) /\ (IntKind.u64 = IntKind.u64 /\ v7 = limb (cvF s) 3) /\ True) /\ (IntKind.i64 = IntKind.i64 /\ (0 : Int) = erF ↑s.size (32 : Int)) /\ True)
theorem tieRClamp (w0 : World) (s : ByteArray) : VCRClamp s = ((recN (GC Try.prog xd1Spec w0) 40).call 41 [.str (.sym s)] [] (fun r__ _ => eqV r__ (.tup [.agg [.int .u64 (.sym (limb (cvF s) 0)), .int .u64 (.sym (limb (cvF s) 1)), .int .u64 (.sym (limb (cvF s) 2)), .int .u64 (.sym (limb (cvF s) 3))], .int .i64 (.sym (erF s.size 32))]))) := by kernel_rfl
theorem pureRClamp (s : ByteArray) (h : True) : VCRClamp s := by
  refine ⟨trivial, fun v1 h1 v2 h2 => brN (fun c => ?_) fun c v4 h4 v5 h5 v6 h6 v7 h7 => ?_⟩
  · rw [cvZ (erF_ne.1 (h2 ▸ c))]; exact ⟨limb00, ⟨rfl, h2⟩, trivial⟩
  · have e := er0 (h2 ▸ c)
    have ec : cvF s = clF v1 := by unfold cvF; rw [if_pos e, h1]
    obtain ⟨k0, k1, k2, k3⟩ := cl_limbs v1
    have l3 := limb_in v1 3
    have l0 := limb_in v1 0
    rw [shrN .u64 _ 3 3 8] at h4
    rw [shlN .u64 _ 3 3 8, h4, u64_id (by omega) (by omega)] at h5
    rw [and_low_u64 (limb_in ..) 63 9223372036854775807 9223372036854775808] at h6
    rw [h6, orBit (by omega) (by omega)] at h7
    rw [ec]
    exact ⟨⟨⟨rfl, h5.trans ((by omega : limb v1 0 / 8 * 8 = limb v1 0 - limb v1 0 % 8).trans k0)⟩, ⟨rfl, k1⟩, ⟨rfl, k2⟩, ⟨rfl, h7.trans k3⟩, trivial⟩, ⟨rfl, c.symm.trans h2⟩, trivial⟩
theorem rClamp_ok : SpecOk Try.prog 41 rClampSpec := by
  intro args k h
  unfold rClampSpec at h
  split at h
  · rename_i s
    obtain ⟨hr, h⟩ := h
    exact ⟨_, h _ rfl _ rfl, PureOk.of_tie (GC Try.prog xd1Spec) (fun w__ => gok w__ namesOk_ mixed_ xd1_ok) (fun _ => rfl) (fun _ => rfl) (args' := [.str (.sym s.val)]) ⟨rfl, trivial⟩ 40 (fun w__ => VCRClamp s.val) (fun w__ => tieRClamp w__ s.val) (fun w__ => pureRClamp s.val hr)⟩
  · exact h.elim

def coordSpec : CSpec
  | [.str s], k => (True) ∧ (∀ r0 : Int, r0 = (coF s.val) → ∀ r1 : Int, r1 = (erF s.val.size 32) → k (.tup [.agg [.int .u64 (.sym (limb r0 0)), .int .u64 (.sym (limb r0 1)), .int .u64 (.sym (limb r0 2)), .int .u64 (.sym (limb r0 3))], .int .i64 (.sym r1)]))
  | _, _ => False
def VCCoord (s : ByteArray) : Prop :=
  True /\ ∀ v1, v1 = leF s -> ∀ v2, v2 = erF ↑s.size (32 : Int) -> ∀ v3, v3 = (v2 != (0 : Int)) -> (v3 = true -> ((IntKind.u64 = IntKind.u64 /\ 0 = limb (coF s) 0) /\ (IntKind.u64 = IntKind.u64 /\ 0 = limb (coF s) 1) /\ (IntKind.u64 = IntKind.u64 /\ 0 = limb (coF s) 2) /\ (IntKind.u64 = IntKind.u64 /\ 0 = limb (coF s) 3) /\ True) /\ (IntKind.i64 = IntKind.i64 /\ v2 = erF ↑s.size (32 : Int)) /\ True) /\ (v3 = false -> ∀ v4, v4 = bitI BinOp.andNot IntKind.u64 (limb v1 3) (9223372036854775808 : Int) -> (U64 (limb v1 0) /\ U64 (limb v1 1) /\ U64 (limb v1 2) /\ U64 v4 /\ U64 0 /\ U64 0 /\ U64 0 /\ U64 0 /\ U64 18446744073709551597 /\ U64 18446744073709551615 /\ U64 18446744073709551615 /\ U64 9223372036854775807) /\ ∀ v5, v5 = rF (val4 (limb v1 0) (limb v1 1) (limb v1 2) v4) (0 : Int) (57896044618658097711785492504343953926634992332820282019728792003956564819949 : Int) -> ((IntKind.u64 = IntKind.u64 /\ limb v5 0 = limb (coF s) 0) /\ (IntKind.u64 = IntKind.u64 /\ limb v5 1 = limb (coF s) 1) /\ (IntKind.u64 = IntKind.u64 /\ limb v5 2 = limb (coF s) 2) /\ (IntKind.u64 = IntKind.u64 /\ limb v5 3 = limb (coF s) 3) /\ True) /\ (IntKind.i64 = IntKind.i64 /\ (0 : Int) = erF ↑s.size (32 : Int)) /\ True)
theorem tieCoord (w0 : World) (s : ByteArray) : VCCoord s = ((recN (GC Try.prog xd1Spec w0) 40).call 88 [.str (.sym s)] [] (fun r__ _ => eqV r__ (.tup [.agg [.int .u64 (.sym (limb (coF s) 0)), .int .u64 (.sym (limb (coF s) 1)), .int .u64 (.sym (limb (coF s) 2)), .int .u64 (.sym (limb (coF s) 3))], .int .i64 (.sym (erF s.size 32))]))) := by kernel_rfl
theorem pureCoord (s : ByteArray) (h : True) : VCCoord s := by
  obtain ⟨q0, q1, q2, q3⟩ := m5
  refine ⟨trivial, fun v1 h1 v2 h2 => brN (fun c => ?_) fun c v4 h4 => ?_⟩
  · rw [coZ (erF_ne.1 (h2 ▸ c))]; exact ⟨limb00, ⟨rfl, h2⟩, trivial⟩
  · have e := er0 (h2 ▸ c)
    have l3 := limb_in v1 3
    rw [anTop (limb_in ..)] at h4
    refine ⟨⟨limb_in .., limb_in .., limb_in .., by unfold U64; omega, U64_0, U64_0, U64_0, U64_0, q0, q1, q2, q3⟩, fun v5 h5 => ⟨limb_eq ?_, ⟨rfl, c.symm.trans h2⟩, trivial⟩⟩
    rw [h5, h4, rF_mod, modP5, co_val]
    unfold coF; rw [if_pos e, h1]
theorem coord_ok : SpecOk Try.prog 88 coordSpec := by
  intro args k h
  unfold coordSpec at h
  split at h
  · rename_i s
    obtain ⟨hr, h⟩ := h
    exact ⟨_, h _ rfl _ rfl, PureOk.of_tie (GC Try.prog xd1Spec) (fun w__ => gok w__ namesOk_ mixed_ xd1_ok) (fun _ => rfl) (fun _ => rfl) (args' := [.str (.sym s.val)]) ⟨rfl, trivial⟩ 40 (fun w__ => VCCoord s.val) (fun w__ => tieCoord w__ s.val) (fun w__ => pureCoord s.val hr)⟩
  · exact h.elim

def rCoordSpec : CSpec
  | [.str s], k => (True) ∧ (∀ r0 : Int, r0 = (coF s.val) → ∀ r1 : Int, r1 = (erF s.val.size 32) → k (.tup [.agg [.int .u64 (.sym (limb r0 0)), .int .u64 (.sym (limb r0 1)), .int .u64 (.sym (limb r0 2)), .int .u64 (.sym (limb r0 3))], .int .i64 (.sym r1)]))
  | _, _ => False
def VCRCoord (s : ByteArray) : Prop :=
  True /\ ∀ v1, v1 = leF s -> ∀ v2, v2 = erF ↑s.size (32 : Int) -> ∀ v3, v3 = (v2 != (0 : Int)) -> (v3 = true -> ((IntKind.u64 = IntKind.u64 /\ 0 = limb (coF s) 0) /\ (IntKind.u64 = IntKind.u64 /\ 0 = limb (coF s) 1) /\ (IntKind.u64 = IntKind.u64 /\ 0 = limb (coF s) 2) /\ (IntKind.u64 = IntKind.u64 /\ 0 = limb (coF s) 3) /\ True) /\ (IntKind.i64 = IntKind.i64 /\ v2 = erF ↑s.size (32 : Int)) /\ True) /\ (v3 = false -> ∀ v4, v4 = bitI BinOp.and IntKind.u64 (limb v1 3) (9223372036854775807 : Int) -> (U64 (limb v1 0) /\ U64 (limb v1 1) /\ U64 (limb v1 2) /\ U64 v4 /\ U64 0 /\ U64 0 /\ U64 0 /\ U64 0 /\ U64 18446744073709551597 /\ U64 18446744073709551615 /\ U64 18446744073709551615 /\ U64 9223372036854775807) /\ ∀ v5, v5 = rF (val4 (limb v1 0) (limb v1 1) (limb v1 2) v4) (0 : Int) (57896044618658097711785492504343953926634992332820282019728792003956564819949 : Int) -> ((IntKind.u64 = IntKind.u64 /\ limb v5 0 = limb (coF s) 0) /\ (IntKind.u64 = IntKind.u64 /\ limb v5 1 = limb (coF s) 1) /\ (IntKind.u64 = IntKind.u64 /\ limb v5 2 = limb (coF s) 2) /\ (IntKind.u64 = IntKind.u64 /\ limb v5 3 = limb (coF s) 3) /\ True) /\ (IntKind.i64 = IntKind.i64 /\ (0 : Int) = erF ↑s.size (32 : Int)) /\ True)
theorem tieRCoord (w0 : World) (s : ByteArray) : VCRCoord s = ((recN (GC Try.prog xd1Spec w0) 40).call 91 [.str (.sym s)] [] (fun r__ _ => eqV r__ (.tup [.agg [.int .u64 (.sym (limb (coF s) 0)), .int .u64 (.sym (limb (coF s) 1)), .int .u64 (.sym (limb (coF s) 2)), .int .u64 (.sym (limb (coF s) 3))], .int .i64 (.sym (erF s.size 32))]))) := by kernel_rfl
theorem pureRCoord (s : ByteArray) (h : True) : VCRCoord s := by
  obtain ⟨q0, q1, q2, q3⟩ := m5
  refine ⟨trivial, fun v1 h1 v2 h2 => brN (fun c => ?_) fun c v4 h4 => ?_⟩
  · rw [coZ (erF_ne.1 (h2 ▸ c))]; exact ⟨limb00, ⟨rfl, h2⟩, trivial⟩
  · have e := er0 (h2 ▸ c)
    have l3 := limb_in v1 3
    rw [and_low_u64 (limb_in ..) 63 9223372036854775807 9223372036854775808] at h4
    refine ⟨⟨limb_in .., limb_in .., limb_in .., by unfold U64; omega, U64_0, U64_0, U64_0, U64_0, q0, q1, q2, q3⟩, fun v5 h5 => ⟨limb_eq ?_, ⟨rfl, c.symm.trans h2⟩, trivial⟩⟩
    rw [h5, h4, rF_mod, modP5, co_val]
    unfold coF; rw [if_pos e, h1]
theorem rCoord_ok : SpecOk Try.prog 91 rCoordSpec := by
  intro args k h
  unfold rCoordSpec at h
  split at h
  · rename_i s
    obtain ⟨hr, h⟩ := h
    exact ⟨_, h _ rfl _ rfl, PureOk.of_tie (GC Try.prog xd1Spec) (fun w__ => gok w__ namesOk_ mixed_ xd1_ok) (fun _ => rfl) (fun _ => rfl) (args' := [.str (.sym s.val)]) ⟨rfl, trivial⟩ 40 (fun w__ => VCRCoord s.val) (fun w__ => tieRCoord w__ s.val) (fun w__ => pureRCoord s.val hr)⟩
  · exact h.elim

end Go.Proofs.Ytaaobpalpcdlbaa.Bits
