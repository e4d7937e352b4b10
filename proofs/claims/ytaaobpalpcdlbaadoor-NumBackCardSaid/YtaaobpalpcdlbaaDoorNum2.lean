import Derived.Test.YtaaobpalpcdlbaaDoorSxR
import Derived.Test.YtaaobpalpcdlbaaDoorProg
import Derived.Test.YtaaobpalpcdlbaaDoorNum1
import Derived.KernelRfl
namespace Go.Proofs.YtaaobpalpcdlbaaDoor.Bits
open Go Go.Sx Go.RowKit
set_option linter.unusedVariables false
set_option maxRecDepth 100000
def cmpsSpec : List (FuncId × CSpec) := [(38, compareSpec), (46, len64Spec)]
theorem cmps_ok : SpecsOk Tryd.prog cmpsSpec := ⟨compare_ok, len64_ok, trivial⟩
def bitF (x i : Int) : Int := if i < 0 ∨ 255 < i then 0 else x / 2 ^ i.toNat % 2
def cmpSpec : CSpec
  | [.agg [.int .u64 a0, .int .u64 a1, .int .u64 a2, .int .u64 a3], .agg [.int .u64 b0, .int .u64 b1, .int .u64 b2, .int .u64 b3]], k => ((U64 a0.val) ∧ (U64 a1.val) ∧ (U64 a2.val) ∧ (U64 a3.val) ∧ (U64 b0.val) ∧ (U64 b1.val) ∧ (U64 b2.val) ∧ (U64 b3.val)) ∧ (∀ r0 : Int, r0 = (cmpF (val4 a0.val a1.val a2.val a3.val) (val4 b0.val b1.val b2.val b3.val)) → k (.int .i64 (.sym r0)))
  | _, _ => False
def VCCmp (a0 : Int) (a1 : Int) (a2 : Int) (a3 : Int) (b0 : Int) (b1 : Int) (b2 : Int) (b3 : Int) : Prop :=
  ∀ v1, v1 = (a3 != b3) -> (v1 = true -> (U64 a3 /\ U64 b3) /\ ∀ v2, v2 = cmpF a3 b3 -> IntKind.i64 = IntKind.i64 /\ v2 = cmpF (val4 a0 a1 a2 a3) (val4 b0 b1 b2 b3)) /\ (v1 = false -> ∀ v3, v3 = (a2 != b2) -> (v3 = true -> (U64 a2 /\ U64 b2) /\ ∀ v4, v4 = cmpF a2 b2 -> IntKind.i64 = IntKind.i64 /\ v4 = cmpF (val4 a0 a1 a2 a3) (val4 b0 b1 b2 b3)) /\ (v3 = false -> ∀ v5, v5 = (a1 != b1) -> (v5 = true -> (U64 a1 /\ U64 b1) /\ ∀ v6, v6 = cmpF a1 b1 -> IntKind.i64 = IntKind.i64 /\ v6 = cmpF (val4 a0 a1 a2 a3) (val4 b0 b1 b2 b3)) /\ (v5 = false -> (U64 a0 /\ U64 b0) /\ ∀ v7, v7 = cmpF a0 b0 -> IntKind.i64 = IntKind.i64 /\ v7 = cmpF (val4 a0 a1 a2 a3) (val4 b0 b1 b2 b3))))
theorem tieCmp (w0 : World) (a0 : Int) (a1 : Int) (a2 : Int) (a3 : Int) (b0 : Int) (b1 : Int) (b2 : Int) (b3 : Int) : VCCmp a0 a1 a2 a3 b0 b1 b2 b3 = ((recN (GC Tryd.prog cmpsSpec w0) 30).call 11 [.agg [.int .u64 (.sym a0), .int .u64 (.sym a1), .int .u64 (.sym a2), .int .u64 (.sym a3)], .agg [.int .u64 (.sym b0), .int .u64 (.sym b1), .int .u64 (.sym b2), .int .u64 (.sym b3)]] [] (fun r__ _ => eqV r__ (.int .i64 (.sym (cmpF (val4 a0 a1 a2 a3) (val4 b0 b1 b2 b3)))))) := by kernel_rfl
theorem pureCmp (a0 a1 a2 a3 b0 b1 b2 b3 : Int) (h : U64 a0 ∧ U64 a1 ∧ U64 a2 ∧ U64 a3 ∧ U64 b0 ∧ U64 b1 ∧ U64 b2 ∧ U64 b3) : VCCmp a0 a1 a2 a3 b0 b1 b2 b3 := by
  obtain ⟨ha0, ha1, ha2, ha3, hb0, hb1, hb2, hb3⟩ := h
  unfold U64 at ha0 ha1 ha2 ha3 hb0 hb1 hb2 hb3
  refine brN (fun e => ⟨⟨ha3, hb3⟩, fun v h => ⟨rfl, ?_⟩⟩) fun e => brN (fun e => ⟨⟨ha2, hb2⟩, fun v h => ⟨rfl, ?_⟩⟩) fun e => brN (fun e => ⟨⟨ha1, hb1⟩, fun v h => ⟨rfl, ?_⟩⟩) fun e => ⟨⟨ha0, hb0⟩, fun v h => ⟨rfl, ?_⟩⟩
  all_goals
    rw [h]
    unfold cmpF val4
    (repeat' split) <;> omega
theorem cmp_ok : SpecOk Tryd.prog 11 cmpSpec := by
  intro args k h
  unfold cmpSpec at h
  split at h
  · rename_i a0 a1 a2 a3 b0 b1 b2 b3
    obtain ⟨hr, h⟩ := h
    exact ⟨_, h _ rfl, PureOk.of_tie (GC Tryd.prog cmpsSpec) (fun w__ => gok w__ namesOk_ mixed_ cmps_ok) (fun _ => rfl) (fun _ => rfl) (args' := [.agg [.int .u64 (.sym a0.val), .int .u64 (.sym a1.val), .int .u64 (.sym a2.val), .int .u64 (.sym a3.val)], .agg [.int .u64 (.sym b0.val), .int .u64 (.sym b1.val), .int .u64 (.sym b2.val), .int .u64 (.sym b3.val)]]) ⟨⟨⟨rfl, rfl⟩, ⟨rfl, rfl⟩, ⟨rfl, rfl⟩, ⟨rfl, rfl⟩, trivial⟩, ⟨⟨rfl, rfl⟩, ⟨rfl, rfl⟩, ⟨rfl, rfl⟩, ⟨rfl, rfl⟩, trivial⟩, trivial⟩ 30 (fun w__ => VCCmp a0.val a1.val a2.val a3.val b0.val b1.val b2.val b3.val) (fun w__ => tieCmp w__ a0.val a1.val a2.val a3.val b0.val b1.val b2.val b3.val) (fun w__ => pureCmp a0.val a1.val a2.val a3.val b0.val b1.val b2.val b3.val hr)⟩
  · exact h.elim


theorem bit_word (a k : Int) (r : Nat) (hr : r < 64) : (a + k * 18446744073709551616) / 2 ^ r % 2 = a / 2 ^ r % 2 := by
  have e : (18446744073709551616 : Int) = (2 * 2 ^ (63 - r)) * 2 ^ r := by
    rw [← Int.pow_succ', ← Int.pow_add, show 63 - r + 1 + r = 64 by omega]; rfl
  have p : (2 : Int) ^ r ≠ 0 := Int.pow_ne_zero (by omega)
  rw [e, ← Int.mul_assoc, Int.add_mul_ediv_right _ _ p, ← Int.mul_assoc, Int.mul_comm k 2, Int.mul_assoc]
  omega
theorem bit_at (x a k : Int) (j r : Nat) (p : Int) (hp : p = 2 ^ (64 * j)) (hr : r < 64) (h : x / p = a + k * 18446744073709551616) : x / 2 ^ (64 * j + r) % 2 = a / 2 ^ r % 2 := by
  subst hp
  rw [Int.pow_add, ← Int.ediv_ediv_of_nonneg (Int.le_of_lt (Int.pow_pos (by omega))), h, bit_word a k r hr]
theorem bit_in {x i : Int} : 0 ≤ bitF x i ∧ bitF x i ≤ 1 := by unfold bitF; split <;> omega

def bitSpec : CSpec
  | [.agg [.int .u64 a0, .int .u64 a1, .int .u64 a2, .int .u64 a3], .int .i64 i], k => ((U64 a0.val) ∧ (U64 a1.val) ∧ (U64 a2.val) ∧ (U64 a3.val) ∧ (I64 i.val)) ∧ (∀ r0 : Int, r0 = (bitF (val4 a0.val a1.val a2.val a3.val) i.val) → k (.int .u64 (.sym r0)))
  | _, _ => False
def VCBit (a0 : Int) (a1 : Int) (a2 : Int) (a3 : Int) (i : Int) : Prop :=
  ∀ v1, v1 = decide (i < (0 : Int)) -> (v1 = false -> ∀ v2, v2 = decide (i > (255 : Int)) -> (v2 = true -> IntKind.u64 = IntKind.u64 /\ (0 : Int) = bitF (val4 a0 a1 a2 a3) i) /\ (v2 = false -> ∀ v3, v3 = IntKind.i64.wrap (i.tdiv (64 : Int)) -> ((0 : Int) ≤ v3 /\ v3 < (4 : Int)) /\ (v3 = (3 : Int) -> ∀ v4, v4 = i.tmod (64 : Int) -> decide ((0 : Int) ≤ v4) = true /\ ∀ v5, v5 = shrI IntKind.u64 a3 v4 -> ∀ v6, v6 = bitI BinOp.and IntKind.u64 v5 (1 : Int) -> IntKind.u64 = IntKind.u64 /\ v6 = bitF (val4 a0 a1 a2 a3) i) /\ (v3 = (2 : Int) -> ∀ v7, v7 = i.tmod (64 : Int) -> decide ((0 : Int) ≤ v7) = true /\ ∀ v8, v8 = shrI IntKind.u64 a2 v7 -> ∀ v9, v9 = bitI BinOp.and IntKind.u64 v8 (1 : Int) -> IntKind.u64 = IntKind.u64 /\ v9 = bitF (val4 a0 a1 a2 a3) i) /\ (v3 = (1 : Int) -> ∀ v10, v10 = i.tmod (64 : Int) -> decide ((0 : Int) ≤ v10) = true /\ ∀ v11, v11 = shrI IntKind.u64 a1 v10 -> ∀ v12, v12 = bitI BinOp.and IntKind.u64 v11 (1 : Int) -> IntKind.u64 = IntKind.u64 /\ v12 = bitF (val4 a0 a1 a2 a3) i) /\ (v3 = (0 : Int) -> ∀ v13, v13 = i.tmod (64 : Int) -> decide ((0 : Int) ≤ v13) = true /\ ∀ v14, v14 = shrI IntKind.u64 a0 v13 -> ∀ v15, v15 = bitI BinOp.and IntKind.u64 v14 (1 : Int) -> IntKind.u64 = IntKind.u64 /\ v15 = bitF (val4 a0 a1 a2 a3) i) /\ True)) /\ (v1 = true -> IntKind.u64 = IntKind.u64 /\ (0 : Int) = bitF (val4 a0 a1 a2 a3) i)
theorem tieBit (w0 : World) (a0 : Int) (a1 : Int) (a2 : Int) (a3 : Int) (i : Int) : VCBit a0 a1 a2 a3 i = ((recN (GC Tryd.prog cmpsSpec w0) 30).call 19 [.agg [.int .u64 (.sym a0), .int .u64 (.sym a1), .int .u64 (.sym a2), .int .u64 (.sym a3)], .int .i64 (.sym i)] [] (fun r__ _ => eqV r__ (.int .u64 (.sym (bitF (val4 a0 a1 a2 a3) i))))) := by kernel_rfl
theorem pureBit (a0 a1 a2 a3 i : Int) (h : U64 a0 ∧ U64 a1 ∧ U64 a2 ∧ U64 a3 ∧ I64 i) : VCBit a0 a1 a2 a3 i := by
  obtain ⟨ha0, ha1, ha2, ha3, hi⟩ := h
  unfold I64 at hi
  have ha0' := ha0
  have ha1' := ha1
  have ha2' := ha2
  have ha3' := ha3
  unfold U64 at ha0' ha1' ha2' ha3'
  refine rb (fun e1 => br (fun e2 => ⟨rfl, by unfold bitF; rw [if_pos (by omega)]⟩) fun e2 => ?_) fun e1 => ⟨rfl, by unfold bitF; rw [if_pos (by omega)]⟩
  intro v3 h3
  rw [tdiv_nonneg (by omega), i64_id (by omega) (by omega)] at h3
  have fin : ∀ (a k : Int) (j : Nat) (p : Int), U64 a → v3 = (j : Int) → p = 2 ^ (64 * j) → val4 a0 a1 a2 a3 / p = a + k * 18446744073709551616 → ∀ v, v = i.tmod 64 → decide ((0 : Int) ≤ v) = true ∧ ∀ u, u = shrI .u64 a v → ∀ z, z = bitI .and .u64 u 1 → IntKind.u64 = IntKind.u64 ∧ z = bitF (val4 a0 a1 a2 a3) i := by
    intro a k j p ha hj hp hx v hv
    rw [tmod_nonneg (by omega)] at hv
    obtain ⟨r, hr⟩ := Int.eq_ofNat_of_zero_le (show 0 ≤ v by omega)
    refine ⟨by simp; omega, fun u hu z hz => ⟨rfl, ?_⟩⟩
    have r64 : r < 64 := by omega
    rw [hr, shr_eq .u64 a r (by simp only [IntKind.bits]; omega)] at hu
    have hu0 : 0 ≤ u := by rw [hu]; exact Int.ediv_nonneg ha.1 (Int.le_of_lt (Int.pow_pos (by omega)))
    have hu1 : u ≤ a := by rw [hu]; exact Int.ediv_le_self _ ha.1
    have := ha.2
    rw [and_low_u64 ⟨hu0, by omega⟩ 1 _ 2] at hz
    unfold bitF
    rw [if_neg (by omega), show i.toNat = 64 * j + r by omega, bit_at _ a k j r p hp r64 hx, hz, hu]
  refine ⟨by omega, fun e => fin a3 0 3 _ ha3 (by omega) rfl ?_, fun e => fin a2 a3 2 _ ha2 (by omega) rfl ?_, fun e => fin a1 (a2 + a3 * 18446744073709551616) 1 _ ha1 (by omega) rfl ?_, fun e => fin a0 (a1 + a2 * 18446744073709551616 + a3 * 340282366920938463463374607431768211456) 0 _ ha0 (by omega) rfl ?_, trivial⟩
  · show val4 a0 a1 a2 a3 / 6277101735386680763835789423207666416102355444464034512896 = _; unfold val4; omega
  · show val4 a0 a1 a2 a3 / 340282366920938463463374607431768211456 = _; unfold val4; omega
  · show val4 a0 a1 a2 a3 / 18446744073709551616 = _; unfold val4; omega
  · show val4 a0 a1 a2 a3 / 1 = _; unfold val4; omega
theorem bit_ok : SpecOk Tryd.prog 19 bitSpec := by
  intro args k h
  unfold bitSpec at h
  split at h
  · rename_i a0 a1 a2 a3 i
    obtain ⟨hr, h⟩ := h
    exact ⟨_, h _ rfl, PureOk.of_tie (GC Tryd.prog cmpsSpec) (fun w__ => gok w__ namesOk_ mixed_ cmps_ok) (fun _ => rfl) (fun _ => rfl) (args' := [.agg [.int .u64 (.sym a0.val), .int .u64 (.sym a1.val), .int .u64 (.sym a2.val), .int .u64 (.sym a3.val)], .int .i64 (.sym i.val)]) ⟨⟨⟨rfl, rfl⟩, ⟨rfl, rfl⟩, ⟨rfl, rfl⟩, ⟨rfl, rfl⟩, trivial⟩, ⟨rfl, rfl⟩, trivial⟩ 30 (fun w__ => VCBit a0.val a1.val a2.val a3.val i.val) (fun w__ => tieBit w__ a0.val a1.val a2.val a3.val i.val) (fun w__ => pureBit a0.val a1.val a2.val a3.val i.val hr)⟩
  · exact h.elim


def rBitSpec : CSpec
  | [.agg [.int .u64 a0, .int .u64 a1, .int .u64 a2, .int .u64 a3], .int .i64 i], k => ((U64 a0.val) ∧ (U64 a1.val) ∧ (U64 a2.val) ∧ (U64 a3.val) ∧ (I64 i.val)) ∧ (∀ r0 : Int, r0 = (bitF (val4 a0.val a1.val a2.val a3.val) i.val) → k (.int .u64 (.sym r0)))
  | _, _ => False
def VCRBit (a0 : Int) (a1 : Int) (a2 : Int) (a3 : Int) (i : Int) : Prop := VCBit a0 a1 a2 a3 i
theorem tieRBit (w0 : World) (a0 : Int) (a1 : Int) (a2 : Int) (a3 : Int) (i : Int) : VCRBit a0 a1 a2 a3 i = ((recN (GC Tryd.prog cmpsSpec w0) 30).call 20 [.agg [.int .u64 (.sym a0), .int .u64 (.sym a1), .int .u64 (.sym a2), .int .u64 (.sym a3)], .int .i64 (.sym i)] [] (fun r__ _ => eqV r__ (.int .u64 (.sym (bitF (val4 a0 a1 a2 a3) i))))) := by kernel_rfl
theorem pureRBit (a0 a1 a2 a3 i : Int) (h : U64 a0 ∧ U64 a1 ∧ U64 a2 ∧ U64 a3 ∧ I64 i) : VCRBit a0 a1 a2 a3 i := by
  obtain ⟨ha0, ha1, ha2, ha3, hi⟩ := h
  unfold I64 at hi
  have ha0' := ha0
  have ha1' := ha1
  have ha2' := ha2
  have ha3' := ha3
  unfold U64 at ha0' ha1' ha2' ha3'
  refine rb (fun e1 => br (fun e2 => ⟨rfl, by unfold bitF; rw [if_pos (by omega)]⟩) fun e2 => ?_) fun e1 => ⟨rfl, by unfold bitF; rw [if_pos (by omega)]⟩
  intro v3 h3
  rw [tdiv_nonneg (by omega), i64_id (by omega) (by omega)] at h3
  have fin : ∀ (a k : Int) (j : Nat) (p : Int), U64 a → v3 = (j : Int) → p = 2 ^ (64 * j) → val4 a0 a1 a2 a3 / p = a + k * 18446744073709551616 → ∀ v, v = i.tmod 64 → decide ((0 : Int) ≤ v) = true ∧ ∀ u, u = shrI .u64 a v → ∀ z, z = bitI .and .u64 u 1 → IntKind.u64 = IntKind.u64 ∧ z = bitF (val4 a0 a1 a2 a3) i := by
    intro a k j p ha hj hp hx v hv
    rw [tmod_nonneg (by omega)] at hv
    obtain ⟨r, hr⟩ := Int.eq_ofNat_of_zero_le (show 0 ≤ v by omega)
    refine ⟨by simp; omega, fun u hu z hz => ⟨rfl, ?_⟩⟩
    have r64 : r < 64 := by omega
    rw [hr, shr_eq .u64 a r (by simp only [IntKind.bits]; omega)] at hu
    have hu0 : 0 ≤ u := by rw [hu]; exact Int.ediv_nonneg ha.1 (Int.le_of_lt (Int.pow_pos (by omega)))
    have hu1 : u ≤ a := by rw [hu]; exact Int.ediv_le_self _ ha.1
    have := ha.2
    rw [and_low_u64 ⟨hu0, by omega⟩ 1 _ 2] at hz
    unfold bitF
    rw [if_neg (by omega), show i.toNat = 64 * j + r by omega, bit_at _ a k j r p hp r64 hx, hz, hu]
  refine ⟨by omega, fun e => fin a3 0 3 _ ha3 (by omega) rfl ?_, fun e => fin a2 a3 2 _ ha2 (by omega) rfl ?_, fun e => fin a1 (a2 + a3 * 18446744073709551616) 1 _ ha1 (by omega) rfl ?_, fun e => fin a0 (a1 + a2 * 18446744073709551616 + a3 * 340282366920938463463374607431768211456) 0 _ ha0 (by omega) rfl ?_, trivial⟩
  · show val4 a0 a1 a2 a3 / 6277101735386680763835789423207666416102355444464034512896 = _; unfold val4; omega
  · show val4 a0 a1 a2 a3 / 340282366920938463463374607431768211456 = _; unfold val4; omega
  · show val4 a0 a1 a2 a3 / 18446744073709551616 = _; unfold val4; omega
  · show val4 a0 a1 a2 a3 / 1 = _; unfold val4; omega
theorem rBit_ok : SpecOk Tryd.prog 20 rBitSpec := by
  intro args k h
  unfold rBitSpec at h
  split at h
  · rename_i a0 a1 a2 a3 i
    obtain ⟨hr, h⟩ := h
    exact ⟨_, h _ rfl, PureOk.of_tie (GC Tryd.prog cmpsSpec) (fun w__ => gok w__ namesOk_ mixed_ cmps_ok) (fun _ => rfl) (fun _ => rfl) (args' := [.agg [.int .u64 (.sym a0.val), .int .u64 (.sym a1.val), .int .u64 (.sym a2.val), .int .u64 (.sym a3.val)], .int .i64 (.sym i.val)]) ⟨⟨⟨rfl, rfl⟩, ⟨rfl, rfl⟩, ⟨rfl, rfl⟩, ⟨rfl, rfl⟩, trivial⟩, ⟨rfl, rfl⟩, trivial⟩ 30 (fun w__ => VCRBit a0.val a1.val a2.val a3.val i.val) (fun w__ => tieRBit w__ a0.val a1.val a2.val a3.val i.val) (fun w__ => pureRBit a0.val a1.val a2.val a3.val i.val hr)⟩
  · exact h.elim


def lenSpec : CSpec
  | [.agg [.int .u64 a0, .int .u64 a1, .int .u64 a2, .int .u64 a3]], k => ((U64 a0.val) ∧ (U64 a1.val) ∧ (U64 a2.val) ∧ (U64 a3.val)) ∧ (∀ r0 : Int, r0 = (lenF (val4 a0.val a1.val a2.val a3.val)) → k (.int .i64 (.sym r0)))
  | _, _ => False
def VCLen (a0 : Int) (a1 : Int) (a2 : Int) (a3 : Int) : Prop :=
  ∀ v1, v1 = (a3 != (0 : Int)) -> (v1 = true -> U64 a3 /\ ∀ v2, v2 = lenF a3 -> ∀ v3, v3 = IntKind.i64.wrap ((192 : Int) + v2) -> IntKind.i64 = IntKind.i64 /\ v3 = lenF (val4 a0 a1 a2 a3)) /\ (v1 = false -> ∀ v4, v4 = (a2 != (0 : Int)) -> (v4 = true -> U64 a2 /\ ∀ v5, v5 = lenF a2 -> ∀ v6, v6 = IntKind.i64.wrap ((128 : Int) + v5) -> IntKind.i64 = IntKind.i64 /\ v6 = lenF (val4 a0 a1 a2 a3)) /\ (v4 = false -> ∀ v7, v7 = (a1 != (0 : Int)) -> (v7 = true -> U64 a1 /\ ∀ v8, v8 = lenF a1 -> ∀ v9, v9 = IntKind.i64.wrap ((64 : Int) + v8) -> IntKind.i64 = IntKind.i64 /\ v9 = lenF (val4 a0 a1 a2 a3)) /\ (v7 = false -> ∀ v10, v10 = (a0 != (0 : Int)) -> (v10 = true -> U64 a0 /\ ∀ v11, v11 = lenF a0 -> ∀ v12, v12 = IntKind.i64.wrap ((0 : Int) + v11) -> IntKind.i64 = IntKind.i64 /\ v12 = lenF (val4 a0 a1 a2 a3)) /\ (v10 = false -> IntKind.i64 = IntKind.i64 /\ (0 : Int) = lenF (val4 a0 a1 a2 a3)))))
theorem tieLen (w0 : World) (a0 : Int) (a1 : Int) (a2 : Int) (a3 : Int) : VCLen a0 a1 a2 a3 = ((recN (GC Tryd.prog cmpsSpec w0) 40).call 21 [.agg [.int .u64 (.sym a0), .int .u64 (.sym a1), .int .u64 (.sym a2), .int .u64 (.sym a3)]] [] (fun r__ _ => eqV r__ (.int .i64 (.sym (lenF (val4 a0 a1 a2 a3)))))) := by kernel_rfl
theorem pureLen (a0 a1 a2 a3 : Int) (h : U64 a0 ∧ U64 a1 ∧ U64 a2 ∧ U64 a3) : VCLen a0 a1 a2 a3 := by
  obtain ⟨ha0, ha1, ha2, ha3⟩ := h
  unfold U64 at ha0 ha1 ha2 ha3
  have bd : ∀ x, 0 ≤ x ∧ x ≤ 18446744073709551615 → 0 ≤ lenF x ∧ lenF x ≤ 64 := fun x hx => lenF_bound hx.1 64 (by omega)
  refine brN (fun e => ⟨ha3, fun v2 h2 v3 h3 => ⟨rfl, ?_⟩⟩) fun e => brN (fun e => ⟨ha2, fun v2 h2 v3 h3 => ⟨rfl, ?_⟩⟩) fun e => brN (fun e => ⟨ha1, fun v2 h2 v3 h3 => ⟨rfl, ?_⟩⟩) fun e => brN (fun e => ⟨ha0, fun v2 h2 v3 h3 => ⟨rfl, ?_⟩⟩) fun e => ⟨rfl, ?_⟩
  · have b := bd a3 ha3
    rw [i64_id (by omega) (by omega)] at h3
    rw [lenF_div 192 6277101735386680763835789423207666416102355444464034512896 rfl (by unfold val4; omega), show val4 a0 a1 a2 a3 / 6277101735386680763835789423207666416102355444464034512896 = a3 by unfold val4; omega]
    omega
  · have b := bd a2 ha2
    rw [i64_id (by omega) (by omega)] at h3
    rw [lenF_div 128 340282366920938463463374607431768211456 rfl (by unfold val4; omega), show val4 a0 a1 a2 a3 / 340282366920938463463374607431768211456 = a2 by unfold val4; omega]
    omega
  · have b := bd a1 ha1
    rw [i64_id (by omega) (by omega)] at h3
    rw [lenF_div 64 18446744073709551616 rfl (by unfold val4; omega), show val4 a0 a1 a2 a3 / 18446744073709551616 = a1 by unfold val4; omega]
    omega
  · have b := bd a0 ha0
    rw [i64_id (by omega) (by omega)] at h3
    rw [show val4 a0 a1 a2 a3 = a0 by unfold val4; omega]
    omega
  · rw [show val4 a0 a1 a2 a3 = 0 by unfold val4; omega]; rfl
theorem len_ok : SpecOk Tryd.prog 21 lenSpec := by
  intro args k h
  unfold lenSpec at h
  split at h
  · rename_i a0 a1 a2 a3
    obtain ⟨hr, h⟩ := h
    exact ⟨_, h _ rfl, PureOk.of_tie (GC Tryd.prog cmpsSpec) (fun w__ => gok w__ namesOk_ mixed_ cmps_ok) (fun _ => rfl) (fun _ => rfl) (args' := [.agg [.int .u64 (.sym a0.val), .int .u64 (.sym a1.val), .int .u64 (.sym a2.val), .int .u64 (.sym a3.val)]]) ⟨⟨⟨rfl, rfl⟩, ⟨rfl, rfl⟩, ⟨rfl, rfl⟩, ⟨rfl, rfl⟩, trivial⟩, trivial⟩ 40 (fun w__ => VCLen a0.val a1.val a2.val a3.val) (fun w__ => tieLen w__ a0.val a1.val a2.val a3.val) (fun w__ => pureLen a0.val a1.val a2.val a3.val hr)⟩
  · exact h.elim


end Go.Proofs.YtaaobpalpcdlbaaDoor.Bits
