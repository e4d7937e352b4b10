import Derived.Test.YtaaobpalpcdlbaaDoorSxR
import Derived.Test.YtaaobpalpcdlbaaDoorProg
import Derived.Test.YtaaobpalpcdlbaaDoorCarry
import Derived.Test.YtaaobpalpcdlbaaDoorBits
import Derived.KernelRfl
namespace Go.Proofs.YtaaobpalpcdlbaaDoor.Bits
open Go Go.Sx Go.RowKit
set_option linter.unusedVariables false
set_option maxRecDepth 100000
def carrySpec : List (FuncId × CSpec) := [(42, add64Spec), (44, sub64Spec)]
theorem carry_ok : SpecsOk Tryd.prog carrySpec := ⟨add64_ok, sub64_ok, trivial⟩
def cmpF (x y : Int) : Int := if x < y then -1 else if x = y then 0 else 1
def noneSpec : List (FuncId × CSpec) := []
theorem none_ok : SpecsOk Tryd.prog noneSpec := trivial
def rAddCSpec : St → Inv := fun S =>
  { ι := Int × Int
    T := fun p => stS (keepS (hset S 3 (iat S 8).toNat (.int .u64 (.sym p.1))) [2, 3, 4, 5, 7, 8]) [(6, .int .u64 (.sym p.2))]
    R := fun p => p.1 + p.2 * 18446744073709551616 = hat S 0 (iat S 8).toNat + hat S 1 (iat S 8).toNat + iat S 6 ∧ U64 p.1 ∧ 0 ≤ p.2 ∧ p.2 ≤ 1
    μ := fun _ => 0 }
def rSubCSpec : St → Inv := fun S =>
  { ι := Int × Int
    T := fun p => stS (keepS (hset S 3 (iat S 8).toNat (.int .u64 (.sym p.1))) [2, 3, 4, 5, 7, 8]) [(6, .int .u64 (.sym p.2))]
    R := fun p => p.1 - p.2 * 18446744073709551616 = hat S 0 (iat S 8).toNat - hat S 1 (iat S 8).toNat - iat S 6 ∧ U64 p.1 ∧ 0 ≤ p.2 ∧ p.2 ≤ 1
    μ := fun _ => 0 }
def rAnnSpec : Anns := []
def rCutSpec : Anns := [(14, 1, rAddCSpec), (16, 1, rSubCSpec)]
--@SQUEEZE
theorem val4_lt {a b c d : Int} (ha : 0 ≤ a ∧ a ≤ 18446744073709551615) (hb : 0 ≤ b ∧ b ≤ 18446744073709551615) (hc : 0 ≤ c ∧ c ≤ 18446744073709551615) (hd : 0 ≤ d ∧ d ≤ 18446744073709551615) :
    0 ≤ val4 a b c d ∧ val4 a b c d < 115792089237316195423570985008687907853269984665640564039457584007913129639936 := by unfold val4; omega
theorem limbs4 {a b c d : Int} (k : Int) (ha : 0 ≤ a ∧ a ≤ 18446744073709551615) (hb : 0 ≤ b ∧ b ≤ 18446744073709551615) (hc : 0 ≤ c ∧ c ≤ 18446744073709551615) (hd : 0 ≤ d ∧ d ≤ 18446744073709551615) :
    let x := val4 a b c d + k * 115792089237316195423570985008687907853269984665640564039457584007913129639936
    limb x 0 = a ∧ limb x 1 = b ∧ limb x 2 = c ∧ limb x 3 = d := by
  intro x
  have e0 : ∀ y : Int, limb y 0 = y % 18446744073709551616 := fun y => by unfold limb; simp
  have e1 : ∀ y : Int, limb y 1 = y / 18446744073709551616 % 18446744073709551616 := fun y => by unfold limb; rfl
  have e2 : ∀ y : Int, limb y 2 = y / 340282366920938463463374607431768211456 % 18446744073709551616 := fun y => by unfold limb; rfl
  have e3 : ∀ y : Int, limb y 3 = y / 6277101735386680763835789423207666416102355444464034512896 % 18446744073709551616 := fun y => by unfold limb; rfl
  rw [e0, e1, e2, e3]
  show (val4 a b c d + k * 115792089237316195423570985008687907853269984665640564039457584007913129639936) % _ = a ∧ (val4 a b c d + k * 115792089237316195423570985008687907853269984665640564039457584007913129639936) / _ % _ = b ∧ (val4 a b c d + k * 115792089237316195423570985008687907853269984665640564039457584007913129639936) / _ % _ = c ∧ (val4 a b c d + k * 115792089237316195423570985008687907853269984665640564039457584007913129639936) / _ % _ = d
  unfold val4
  refine ⟨?_, ?_, ?_, ?_⟩ <;> omega
theorem addW {x y c o d : Int} (hx : 0 ≤ x ∧ x ≤ 18446744073709551615) (hy : 0 ≤ y ∧ y ≤ 18446744073709551615) (h0 : 0 ≤ c) (h1 : c ≤ 1) (ho : o = s64 x y c) (hd : d = c64 x y c) :
    o + d * 18446744073709551616 = x + y + c ∧ 0 ≤ o ∧ o ≤ 18446744073709551615 ∧ 0 ≤ d ∧ d ≤ 1 := by unfold s64 at ho; unfold c64 at hd; omega
theorem subW {x y c o d : Int} (hx : 0 ≤ x ∧ x ≤ 18446744073709551615) (hy : 0 ≤ y ∧ y ≤ 18446744073709551615) (h0 : 0 ≤ c) (h1 : c ≤ 1) (ho : o = d64 x y c) (hd : d = b64 x y c) :
    o - d * 18446744073709551616 = x - y - c ∧ 0 ≤ o ∧ o ≤ 18446744073709551615 ∧ 0 ≤ d ∧ d ≤ 1 := by unfold d64 at ho; unfold b64 at hd; split at hd <;> omega
def addSpec : CSpec
  | [.agg [.int .u64 a0, .int .u64 a1, .int .u64 a2, .int .u64 a3], .agg [.int .u64 b0, .int .u64 b1, .int .u64 b2, .int .u64 b3]], k => ((U64 a0.val) ∧ (U64 a1.val) ∧ (U64 a2.val) ∧ (U64 a3.val) ∧ (U64 b0.val) ∧ (U64 b1.val) ∧ (U64 b2.val) ∧ (U64 b3.val)) ∧ (∀ r0 : Int, r0 = ((val4 a0.val a1.val a2.val a3.val) + (val4 b0.val b1.val b2.val b3.val)) → ∀ r1 : Int, r1 = (((val4 a0.val a1.val a2.val a3.val) + (val4 b0.val b1.val b2.val b3.val)) / 115792089237316195423570985008687907853269984665640564039457584007913129639936) → k (.tup [.agg [.int .u64 (.sym (limb r0 0)), .int .u64 (.sym (limb r0 1)), .int .u64 (.sym (limb r0 2)), .int .u64 (.sym (limb r0 3))], .int .u64 (.sym r1)]))
  | _, _ => False
def VCAdd (a0 : Int) (a1 : Int) (a2 : Int) (a3 : Int) (b0 : Int) (b1 : Int) (b2 : Int) (b3 : Int) : Prop :=
  (U64 a0 /\ U64 b0 /\ (0 : Int) ≤ (0 : Int) /\ (0 : Int) ≤ (1 : Int)) /\ ∀ v1, v1 = s64 a0 b0 0 -> ∀ v2, v2 = c64 a0 b0 0 -> (U64 a1 /\ U64 b1 /\ (0 : Int) ≤ v2 /\ v2 ≤ (1 : Int)) /\ ∀ v3, v3 = s64 a1 b1 v2 -> ∀ v4, v4 = c64 a1 b1 v2 -> (U64 a2 /\ U64 b2 /\ (0 : Int) ≤ v4 /\ v4 ≤ (1 : Int)) /\ ∀ v5, v5 = s64 a2 b2 v4 -> ∀ v6, v6 = c64 a2 b2 v4 -> (U64 a3 /\ U64 b3 /\ (0 : Int) ≤ v6 /\ v6 ≤ (1 : Int)) /\ ∀ v7, v7 = s64 a3 b3 v6 -> ∀ v8, v8 = c64 a3 b3 v6 -> ((IntKind.u64 = IntKind.u64 /\ v1 = limb (val4 a0 a1 a2 a3 + val4 b0 b1 b2 b3) 0) /\ (IntKind.u64 = IntKind.u64 /\ v3 = limb (val4 a0 a1 a2 a3 + val4 b0 b1 b2 b3) 1) /\ (IntKind.u64 = IntKind.u64 /\ v5 = limb (val4 a0 a1 a2 a3 + val4 b0 b1 b2 b3) 2) /\ (IntKind.u64 = IntKind.u64 /\ v7 = limb (val4 a0 a1 a2 a3 + val4 b0 b1 b2 b3) 3) /\ True) /\ (IntKind.u64 = IntKind.u64 /\ v8 = (val4 a0 a1 a2 a3 + val4 b0 b1 b2 b3) / (115792089237316195423570985008687907853269984665640564039457584007913129639936 : Int)) /\ True
theorem tieAdd (w0 : World) (a0 : Int) (a1 : Int) (a2 : Int) (a3 : Int) (b0 : Int) (b1 : Int) (b2 : Int) (b3 : Int) : VCAdd a0 a1 a2 a3 b0 b1 b2 b3 = ((recN (GC Tryd.prog carrySpec w0) 30).call 13 [.agg [.int .u64 (.sym a0), .int .u64 (.sym a1), .int .u64 (.sym a2), .int .u64 (.sym a3)], .agg [.int .u64 (.sym b0), .int .u64 (.sym b1), .int .u64 (.sym b2), .int .u64 (.sym b3)]] [] (fun r__ _ => eqV r__ (.tup [.agg [.int .u64 (.sym (limb ((val4 a0 a1 a2 a3) + (val4 b0 b1 b2 b3)) 0)), .int .u64 (.sym (limb ((val4 a0 a1 a2 a3) + (val4 b0 b1 b2 b3)) 1)), .int .u64 (.sym (limb ((val4 a0 a1 a2 a3) + (val4 b0 b1 b2 b3)) 2)), .int .u64 (.sym (limb ((val4 a0 a1 a2 a3) + (val4 b0 b1 b2 b3)) 3))], .int .u64 (.sym (((val4 a0 a1 a2 a3) + (val4 b0 b1 b2 b3)) / 115792089237316195423570985008687907853269984665640564039457584007913129639936))]))) := by kernel_rfl
theorem pureAdd (a0 a1 a2 a3 b0 b1 b2 b3 : Int) (h : U64 a0 ∧ U64 a1 ∧ U64 a2 ∧ U64 a3 ∧ U64 b0 ∧ U64 b1 ∧ U64 b2 ∧ U64 b3) : VCAdd a0 a1 a2 a3 b0 b1 b2 b3 := by
  obtain ⟨ha0, ha1, ha2, ha3, hb0, hb1, hb2, hb3⟩ := h
  unfold U64 at ha0 ha1 ha2 ha3 hb0 hb1 hb2 hb3
  refine ⟨⟨ha0, hb0, by omega, by omega⟩, fun o0 ho0 c0 hc0 => ?_⟩
  obtain ⟨g0, p0, p0', q0, q0'⟩ := addW ha0 hb0 (show 0 ≤ 0 by omega) (by omega) ho0 hc0
  refine ⟨⟨ha1, hb1, by omega, by omega⟩, fun o1 ho1 c1 hc1 => ?_⟩
  obtain ⟨g1, p1, p1', q1, q1'⟩ := addW ha1 hb1 (show 0 ≤ c0 by omega) (by omega) ho1 hc1
  refine ⟨⟨ha2, hb2, by omega, by omega⟩, fun o2 ho2 c2 hc2 => ?_⟩
  obtain ⟨g2, p2, p2', q2, q2'⟩ := addW ha2 hb2 (show 0 ≤ c1 by omega) (by omega) ho2 hc2
  refine ⟨⟨ha3, hb3, by omega, by omega⟩, fun o3 ho3 c3 hc3 => ?_⟩
  obtain ⟨g3, p3, p3', q3, q3'⟩ := addW ha3 hb3 (show 0 ≤ c2 by omega) (by omega) ho3 hc3
  have hs : val4 a0 a1 a2 a3 + val4 b0 b1 b2 b3 = val4 o0 o1 o2 o3 + c3 * 115792089237316195423570985008687907853269984665640564039457584007913129639936 := by unfold val4; omega
  rw [hs]
  obtain ⟨l0, l1, l2, l3⟩ := limbs4 c3 ⟨p0, p0'⟩ ⟨p1, p1'⟩ ⟨p2, p2'⟩ ⟨p3, p3'⟩
  refine ⟨⟨⟨rfl, l0.symm⟩, ⟨rfl, l1.symm⟩, ⟨rfl, l2.symm⟩, ⟨rfl, l3.symm⟩, trivial⟩, ⟨rfl, ?_⟩, trivial⟩
  have := val4_lt ⟨p0, p0'⟩ ⟨p1, p1'⟩ ⟨p2, p2'⟩ ⟨p3, p3'⟩
  omega
theorem add_ok : SpecOk Tryd.prog 13 addSpec := by
  intro args k h
  unfold addSpec at h
  split at h
  · rename_i a0 a1 a2 a3 b0 b1 b2 b3
    obtain ⟨hr, h⟩ := h
    exact ⟨_, h _ rfl _ rfl, PureOk.of_tie (GC Tryd.prog carrySpec) (fun w__ => gok w__ namesOk_ mixed_ carry_ok) (fun _ => rfl) (fun _ => rfl) (args' := [.agg [.int .u64 (.sym a0.val), .int .u64 (.sym a1.val), .int .u64 (.sym a2.val), .int .u64 (.sym a3.val)], .agg [.int .u64 (.sym b0.val), .int .u64 (.sym b1.val), .int .u64 (.sym b2.val), .int .u64 (.sym b3.val)]]) ⟨⟨⟨rfl, rfl⟩, ⟨rfl, rfl⟩, ⟨rfl, rfl⟩, ⟨rfl, rfl⟩, trivial⟩, ⟨⟨rfl, rfl⟩, ⟨rfl, rfl⟩, ⟨rfl, rfl⟩, ⟨rfl, rfl⟩, trivial⟩, trivial⟩ 30 (fun w__ => VCAdd a0.val a1.val a2.val a3.val b0.val b1.val b2.val b3.val) (fun w__ => tieAdd w__ a0.val a1.val a2.val a3.val b0.val b1.val b2.val b3.val) (fun w__ => pureAdd a0.val a1.val a2.val a3.val b0.val b1.val b2.val b3.val hr)⟩
  · exact h.elim

def subSpec : CSpec
  | [.agg [.int .u64 a0, .int .u64 a1, .int .u64 a2, .int .u64 a3], .agg [.int .u64 b0, .int .u64 b1, .int .u64 b2, .int .u64 b3]], k => ((U64 a0.val) ∧ (U64 a1.val) ∧ (U64 a2.val) ∧ (U64 a3.val) ∧ (U64 b0.val) ∧ (U64 b1.val) ∧ (U64 b2.val) ∧ (U64 b3.val)) ∧ (∀ r0 : Int, r0 = ((val4 a0.val a1.val a2.val a3.val) - (val4 b0.val b1.val b2.val b3.val)) → ∀ r1 : Int, r1 = (if (val4 a0.val a1.val a2.val a3.val) < (val4 b0.val b1.val b2.val b3.val) then 1 else 0) → k (.tup [.agg [.int .u64 (.sym (limb r0 0)), .int .u64 (.sym (limb r0 1)), .int .u64 (.sym (limb r0 2)), .int .u64 (.sym (limb r0 3))], .int .u64 (.sym r1)]))
  | _, _ => False
def VCSub (a0 : Int) (a1 : Int) (a2 : Int) (a3 : Int) (b0 : Int) (b1 : Int) (b2 : Int) (b3 : Int) : Prop :=
  (U64 a0 /\ U64 b0 /\ (0 : Int) ≤ (0 : Int) /\ (0 : Int) ≤ (1 : Int)) /\ ∀ v1, v1 = d64 a0 b0 0 -> ∀ v2, v2 = b64 a0 b0 0 -> (U64 a1 /\ U64 b1 /\ (0 : Int) ≤ v2 /\ v2 ≤ (1 : Int)) /\ ∀ v3, v3 = d64 a1 b1 v2 -> ∀ v4, v4 = b64 a1 b1 v2 -> (U64 a2 /\ U64 b2 /\ (0 : Int) ≤ v4 /\ v4 ≤ (1 : Int)) /\ ∀ v5, v5 = d64 a2 b2 v4 -> ∀ v6, v6 = b64 a2 b2 v4 -> (U64 a3 /\ U64 b3 /\ (0 : Int) ≤ v6 /\ v6 ≤ (1 : Int)) /\ ∀ v7, v7 = d64 a3 b3 v6 -> ∀ v8, v8 = b64 a3 b3 v6 -> ((IntKind.u64 = IntKind.u64 /\ v1 = limb (val4 a0 a1 a2 a3 - val4 b0 b1 b2 b3) 0) /\ (IntKind.u64 = IntKind.u64 /\ v3 = limb (val4 a0 a1 a2 a3 - val4 b0 b1 b2 b3) 1) /\ (IntKind.u64 = IntKind.u64 /\ v5 = limb (val4 a0 a1 a2 a3 - val4 b0 b1 b2 b3) 2) /\ (IntKind.u64 = IntKind.u64 /\ v7 = limb (val4 a0 a1 a2 a3 - val4 b0 b1 b2 b3) 3) /\ True) /\ (IntKind.u64 = IntKind.u64 /\ v8 = if val4 a0 a1 a2 a3 < val4 b0 b1 b2 b3 then 1 else 0) /\ True
theorem tieSub (w0 : World) (a0 : Int) (a1 : Int) (a2 : Int) (a3 : Int) (b0 : Int) (b1 : Int) (b2 : Int) (b3 : Int) : VCSub a0 a1 a2 a3 b0 b1 b2 b3 = ((recN (GC Tryd.prog carrySpec w0) 30).call 15 [.agg [.int .u64 (.sym a0), .int .u64 (.sym a1), .int .u64 (.sym a2), .int .u64 (.sym a3)], .agg [.int .u64 (.sym b0), .int .u64 (.sym b1), .int .u64 (.sym b2), .int .u64 (.sym b3)]] [] (fun r__ _ => eqV r__ (.tup [.agg [.int .u64 (.sym (limb ((val4 a0 a1 a2 a3) - (val4 b0 b1 b2 b3)) 0)), .int .u64 (.sym (limb ((val4 a0 a1 a2 a3) - (val4 b0 b1 b2 b3)) 1)), .int .u64 (.sym (limb ((val4 a0 a1 a2 a3) - (val4 b0 b1 b2 b3)) 2)), .int .u64 (.sym (limb ((val4 a0 a1 a2 a3) - (val4 b0 b1 b2 b3)) 3))], .int .u64 (.sym (if (val4 a0 a1 a2 a3) < (val4 b0 b1 b2 b3) then 1 else 0))]))) := by kernel_rfl
theorem pureSub (a0 a1 a2 a3 b0 b1 b2 b3 : Int) (h : U64 a0 ∧ U64 a1 ∧ U64 a2 ∧ U64 a3 ∧ U64 b0 ∧ U64 b1 ∧ U64 b2 ∧ U64 b3) : VCSub a0 a1 a2 a3 b0 b1 b2 b3 := by
  obtain ⟨ha0, ha1, ha2, ha3, hb0, hb1, hb2, hb3⟩ := h
  unfold U64 at ha0 ha1 ha2 ha3 hb0 hb1 hb2 hb3
  refine ⟨⟨ha0, hb0, by omega, by omega⟩, fun o0 ho0 c0 hc0 => ?_⟩
  obtain ⟨g0, p0, p0', q0, q0'⟩ := subW ha0 hb0 (show 0 ≤ 0 by omega) (by omega) ho0 hc0
  refine ⟨⟨ha1, hb1, by omega, by omega⟩, fun o1 ho1 c1 hc1 => ?_⟩
  obtain ⟨g1, p1, p1', q1, q1'⟩ := subW ha1 hb1 (show 0 ≤ c0 by omega) (by omega) ho1 hc1
  refine ⟨⟨ha2, hb2, by omega, by omega⟩, fun o2 ho2 c2 hc2 => ?_⟩
  obtain ⟨g2, p2, p2', q2, q2'⟩ := subW ha2 hb2 (show 0 ≤ c1 by omega) (by omega) ho2 hc2
  refine ⟨⟨ha3, hb3, by omega, by omega⟩, fun o3 ho3 c3 hc3 => ?_⟩
  obtain ⟨g3, p3, p3', q3, q3'⟩ := subW ha3 hb3 (show 0 ≤ c2 by omega) (by omega) ho3 hc3
  have hs : val4 a0 a1 a2 a3 - val4 b0 b1 b2 b3 = val4 o0 o1 o2 o3 + (-c3) * 115792089237316195423570985008687907853269984665640564039457584007913129639936 := by unfold val4; omega
  have hlt : (val4 a0 a1 a2 a3 < val4 b0 b1 b2 b3) ↔ c3 = 1 := by
    have := val4_lt ⟨p0, p0'⟩ ⟨p1, p1'⟩ ⟨p2, p2'⟩ ⟨p3, p3'⟩
    constructor <;> intro <;> omega
  rw [hs]
  obtain ⟨l0, l1, l2, l3⟩ := limbs4 (-c3) ⟨p0, p0'⟩ ⟨p1, p1'⟩ ⟨p2, p2'⟩ ⟨p3, p3'⟩
  refine ⟨⟨⟨rfl, l0.symm⟩, ⟨rfl, l1.symm⟩, ⟨rfl, l2.symm⟩, ⟨rfl, l3.symm⟩, trivial⟩, ⟨rfl, ?_⟩, trivial⟩
  by_cases e : val4 a0 a1 a2 a3 < val4 b0 b1 b2 b3
  · rw [if_pos e]; have := hlt.1 e; omega
  · rw [if_neg e]; have : ¬ c3 = 1 := fun k => e (hlt.2 k); omega
theorem sub_ok : SpecOk Tryd.prog 15 subSpec := by
  intro args k h
  unfold subSpec at h
  split at h
  · rename_i a0 a1 a2 a3 b0 b1 b2 b3
    obtain ⟨hr, h⟩ := h
    exact ⟨_, h _ rfl _ rfl, PureOk.of_tie (GC Tryd.prog carrySpec) (fun w__ => gok w__ namesOk_ mixed_ carry_ok) (fun _ => rfl) (fun _ => rfl) (args' := [.agg [.int .u64 (.sym a0.val), .int .u64 (.sym a1.val), .int .u64 (.sym a2.val), .int .u64 (.sym a3.val)], .agg [.int .u64 (.sym b0.val), .int .u64 (.sym b1.val), .int .u64 (.sym b2.val), .int .u64 (.sym b3.val)]]) ⟨⟨⟨rfl, rfl⟩, ⟨rfl, rfl⟩, ⟨rfl, rfl⟩, ⟨rfl, rfl⟩, trivial⟩, ⟨⟨rfl, rfl⟩, ⟨rfl, rfl⟩, ⟨rfl, rfl⟩, ⟨rfl, rfl⟩, trivial⟩, trivial⟩ 30 (fun w__ => VCSub a0.val a1.val a2.val a3.val b0.val b1.val b2.val b3.val) (fun w__ => tieSub w__ a0.val a1.val a2.val a3.val b0.val b1.val b2.val b3.val) (fun w__ => pureSub a0.val a1.val a2.val a3.val b0.val b1.val b2.val b3.val hr)⟩
  · exact h.elim

def compareSpec : CSpec
  | [.int .u64 x, .int .u64 y], k => ((U64 x.val) ∧ (U64 y.val)) ∧ (∀ r0 : Int, r0 = (cmpF x.val y.val) → k (.int .i64 (.sym r0)))
  | _, _ => False
def VCCompare (x : Int) (y : Int) : Prop :=
  ∀ v1, v1 = (x != x) -> ∀ v2, v2 = (y != y) -> (v1 = true -> (v2 = true -> IntKind.i64 = IntKind.i64 /\ (0 : Int) = cmpF x y) /\ (v2 = false -> IntKind.i64 = IntKind.i64 /\ (-1 : Int) = cmpF x y)) /\ (v1 = false -> (v2 = true -> IntKind.i64 = IntKind.i64 /\ (1 : Int) = cmpF x y) /\ (v2 = false -> ∀ v3, v3 = decide (x < y) -> (v3 = true -> IntKind.i64 = IntKind.i64 /\ (-1 : Int) = cmpF x y) /\ (v3 = false -> ∀ v4, v4 = decide (x > y) -> (v4 = true -> IntKind.i64 = IntKind.i64 /\ (1 : Int) = cmpF x y) /\ (v4 = false -> IntKind.i64 = IntKind.i64 /\ (0 : Int) = cmpF x y))))
theorem tieCompare (w0 : World) (x : Int) (y : Int) : VCCompare x y = ((recN (GC Tryd.prog carrySpec w0) 30).call 38 [.int .u64 (.sym x), .int .u64 (.sym y)] [] (fun r__ _ => eqV r__ (.int .i64 (.sym (cmpF x y))))) := by kernel_rfl
theorem pureCompare (x y : Int) (h : U64 x ∧ U64 y) : VCCompare x y := by
  unfold VCCompare
  simp
  unfold cmpF
  constructor
  · intro e; rw [if_pos e]
  · intro e
    rw [if_neg (by omega)]
    constructor
    · intro e2; rw [if_neg (by omega)]
    · intro e2; rw [if_pos (by omega)]
theorem compare_ok : SpecOk Tryd.prog 38 compareSpec := by
  intro args k h
  unfold compareSpec at h
  split at h
  · rename_i x y
    obtain ⟨hr, h⟩ := h
    exact ⟨_, h _ rfl, PureOk.of_tie (GC Tryd.prog carrySpec) (fun w__ => gok w__ namesOk_ mixed_ carry_ok) (fun _ => rfl) (fun _ => rfl) (args' := [.int .u64 (.sym x.val), .int .u64 (.sym y.val)]) ⟨⟨rfl, rfl⟩, ⟨rfl, rfl⟩, trivial⟩ 30 (fun w__ => VCCompare x.val y.val) (fun w__ => tieCompare w__ x.val y.val) (fun w__ => pureCompare x.val y.val hr)⟩
  · exact h.elim

def rAddSpec : CSpec
  | [.agg [.int .u64 a0, .int .u64 a1, .int .u64 a2, .int .u64 a3], .agg [.int .u64 b0, .int .u64 b1, .int .u64 b2, .int .u64 b3]], k => ((U64 a0.val) ∧ (U64 a1.val) ∧ (U64 a2.val) ∧ (U64 a3.val) ∧ (U64 b0.val) ∧ (U64 b1.val) ∧ (U64 b2.val) ∧ (U64 b3.val)) ∧ (∀ r0 : Int, r0 = ((val4 a0.val a1.val a2.val a3.val) + (val4 b0.val b1.val b2.val b3.val)) → ∀ r1 : Int, r1 = (((val4 a0.val a1.val a2.val a3.val) + (val4 b0.val b1.val b2.val b3.val)) / 115792089237316195423570985008687907853269984665640564039457584007913129639936) → k (.tup [.agg [.int .u64 (.sym (limb r0 0)), .int .u64 (.sym (limb r0 1)), .int .u64 (.sym (limb r0 2)), .int .u64 (.sym (limb r0 3))], .int .u64 (.sym r1)]))
  | _, _ => False
@[simp] abbrev GRAdd1 (y0 : Int) : Prop := y0 = y0 ∧ y0 = y0 ∧ y0 = y0 ∧ y0 = y0 ∧ True
@[simp] abbrev GRAdd2 (y0 y1 y2 y3 : Int) : Prop := y0 = y0 ∧ y1 = y1 ∧ y2 = y2 ∧ y3 = y3 ∧ True
@[simp] abbrev GRAdd3 (y0 y1 y2 y3 y4 y5 y6 : Int) : Prop := y0 + y1 * (18446744073709551616 : Int) = y2 + y3 + y4 ∧ U64 y0 ∧ y5 ≤ y1 ∧ y1 ≤ y6
@[simp] abbrev ERAdd (y : Int) : Prop := y = y
def VCRAdd (a0 : Int) (a1 : Int) (a2 : Int) (a3 : Int) (b0 : Int) (b1 : Int) (b2 : Int) (b3 : Int) : Prop :=
  (∀ v1, v1 = IntKind.u64.wrap (a0 + b0) -> ∀ v2, v2 = IntKind.u64.wrap (v1 + (0 : Int)) -> ∀ v3, v3 = decide (v1 < a0) -> (v3 = false -> ∀ v4, v4 = decide (v2 < v1) -> (v4 = true -> ∃ (x5 : Int × Int), (x5.fst + x5.snd * (18446744073709551616 : Int) = a0 + b0 + (0 : Int) /\ U64 x5.fst /\ (0 : Int) ≤ x5.snd /\ x5.snd ≤ (1 : Int)) /\ (True /\ True /\ True /\ ERAdd 0 /\ (1 : Int) = x5.snd /\ True /\ ERAdd 0 /\ True) /\ (GRAdd2 a0 a1 a2 a3) /\ (GRAdd2 b0 b1 b2 b3) /\ (GRAdd1 0) /\ (v2 = x5.fst /\ (0 : Int) = (0 : Int) /\ ERAdd 0 /\ ERAdd 0 /\ True) /\ True) /\ (v4 = false -> ∃ (x6 : Int × Int), (x6.fst + x6.snd * (18446744073709551616 : Int) = a0 + b0 + (0 : Int) /\ U64 x6.fst /\ (0 : Int) ≤ x6.snd /\ x6.snd ≤ (1 : Int)) /\ (True /\ True /\ True /\ ERAdd 0 /\ (0 : Int) = x6.snd /\ True /\ ERAdd 0 /\ True) /\ (GRAdd2 a0 a1 a2 a3) /\ (GRAdd2 b0 b1 b2 b3) /\ (GRAdd1 0) /\ (v2 = x6.fst /\ (0 : Int) = (0 : Int) /\ ERAdd 0 /\ ERAdd 0 /\ True) /\ True)) /\ (v3 = true -> ∃ (x7 : Int × Int), (x7.fst + x7.snd * (18446744073709551616 : Int) = a0 + b0 + (0 : Int) /\ U64 x7.fst /\ (0 : Int) ≤ x7.snd /\ x7.snd ≤ (1 : Int)) /\ (True /\ True /\ True /\ ERAdd 0 /\ (1 : Int) = x7.snd /\ True /\ ERAdd 0 /\ True) /\ (GRAdd2 a0 a1 a2 a3) /\ (GRAdd2 b0 b1 b2 b3) /\ (GRAdd1 0) /\ (v2 = x7.fst /\ (0 : Int) = (0 : Int) /\ ERAdd 0 /\ ERAdd 0 /\ True) /\ True)) /\ ∀ (v8 : Int × Int), v8.fst + v8.snd * (18446744073709551616 : Int) = a0 + b0 + (0 : Int) /\ U64 v8.fst /\ (0 : Int) ≤ v8.snd /\ v8.snd ≤ (1 : Int) -> (∀ v9, v9 = IntKind.u64.wrap (a1 + b1) -> ∀ v10, v10 = IntKind.u64.wrap (v9 + v8.snd) -> ∀ v11, v11 = decide (v9 < a1) -> (v11 = false -> ∀ v12, v12 = decide (v10 < v9) -> (v12 = true -> ∃ (x13 : Int × Int), (GRAdd3 x13.fst x13.snd a1 b1 v8.snd 0 1) /\ (True /\ True /\ True /\ ERAdd 0 /\ (1 : Int) = x13.snd /\ True /\ ERAdd 1 /\ True) /\ (GRAdd2 a0 a1 a2 a3) /\ (GRAdd2 b0 b1 b2 b3) /\ (GRAdd1 0) /\ (ERAdd v8.fst /\ v10 = x13.fst /\ ERAdd 0 /\ ERAdd 0 /\ True) /\ True) /\ (v12 = false -> ∃ (x14 : Int × Int), (GRAdd3 x14.fst x14.snd a1 b1 v8.snd 0 1) /\ (True /\ True /\ True /\ ERAdd 0 /\ (0 : Int) = x14.snd /\ True /\ ERAdd 1 /\ True) /\ (GRAdd2 a0 a1 a2 a3) /\ (GRAdd2 b0 b1 b2 b3) /\ (GRAdd1 0) /\ (ERAdd v8.fst /\ v10 = x14.fst /\ ERAdd 0 /\ ERAdd 0 /\ True) /\ True)) /\ (v11 = true -> ∃ (x15 : Int × Int), (GRAdd3 x15.fst x15.snd a1 b1 v8.snd 0 1) /\ (True /\ True /\ True /\ ERAdd 0 /\ (1 : Int) = x15.snd /\ True /\ ERAdd 1 /\ True) /\ (GRAdd2 a0 a1 a2 a3) /\ (GRAdd2 b0 b1 b2 b3) /\ (GRAdd1 0) /\ (ERAdd v8.fst /\ v10 = x15.fst /\ ERAdd 0 /\ ERAdd 0 /\ True) /\ True)) /\ ∀ (v16 : Int × Int), v16.fst + v16.snd * (18446744073709551616 : Int) = a1 + b1 + v8.snd /\ U64 v16.fst /\ (0 : Int) ≤ v16.snd /\ v16.snd ≤ (1 : Int) -> (∀ v17, v17 = IntKind.u64.wrap (a2 + b2) -> ∀ v18, v18 = IntKind.u64.wrap (v17 + v16.snd) -> ∀ v19, v19 = decide (v17 < a2) -> (v19 = false -> ∀ v20, v20 = decide (v18 < v17) -> (v20 = true -> ∃ (x21 : Int × Int), (GRAdd3 x21.fst x21.snd a2 b2 v16.snd 0 1) /\ (True /\ True /\ True /\ ERAdd 0 /\ (1 : Int) = x21.snd /\ True /\ ERAdd 2 /\ True) /\ (GRAdd2 a0 a1 a2 a3) /\ (GRAdd2 b0 b1 b2 b3) /\ (GRAdd1 0) /\ (ERAdd v8.fst /\ ERAdd v16.fst /\ v18 = x21.fst /\ ERAdd 0 /\ True) /\ True) /\ (v20 = false -> ∃ (x22 : Int × Int), (GRAdd3 x22.fst x22.snd a2 b2 v16.snd 0 1) /\ (True /\ True /\ True /\ ERAdd 0 /\ (0 : Int) = x22.snd /\ True /\ ERAdd 2 /\ True) /\ (GRAdd2 a0 a1 a2 a3) /\ (GRAdd2 b0 b1 b2 b3) /\ (GRAdd1 0) /\ (ERAdd v8.fst /\ ERAdd v16.fst /\ v18 = x22.fst /\ ERAdd 0 /\ True) /\ True)) /\ (v19 = true -> ∃ (x23 : Int × Int), (GRAdd3 x23.fst x23.snd a2 b2 v16.snd 0 1) /\ (True /\ True /\ True /\ ERAdd 0 /\ (1 : Int) = x23.snd /\ True /\ ERAdd 2 /\ True) /\ (GRAdd2 a0 a1 a2 a3) /\ (GRAdd2 b0 b1 b2 b3) /\ (GRAdd1 0) /\ (ERAdd v8.fst /\ ERAdd v16.fst /\ v18 = x23.fst /\ ERAdd 0 /\ True) /\ True)) /\ ∀ (v24 : Int × Int), v24.fst + v24.snd * (18446744073709551616 : Int) = a2 + b2 + v16.snd /\ U64 v24.fst /\ (0 : Int) ≤ v24.snd /\ v24.snd ≤ (1 : Int) -> (∀ v25, v25 = IntKind.u64.wrap (a3 + b3) -> ∀ v26, v26 = IntKind.u64.wrap (v25 + v24.snd) -> ∀ v27, v27 = decide (v25 < a3) -> (v27 = false -> ∀ v28, v28 = decide (v26 < v25) -> (v28 = true -> ∃ (x29 : Int × Int), (GRAdd3 x29.fst x29.snd a3 b3 v24.snd 0 1) /\ (True /\ True /\ True /\ ERAdd 0 /\ (1 : Int) = x29.snd /\ True /\ ERAdd 3 /\ True) /\ (GRAdd2 a0 a1 a2 a3) /\ (GRAdd2 b0 b1 b2 b3) /\ (GRAdd1 0) /\ (ERAdd v8.fst /\ ERAdd v16.fst /\ ERAdd v24.fst /\ v26 = x29.fst /\ True) /\ True) /\ (v28 = false -> ∃ (x30 : Int × Int), (GRAdd3 x30.fst x30.snd a3 b3 v24.snd 0 1) /\ (True /\ True /\ True /\ ERAdd 0 /\ (0 : Int) = x30.snd /\ True /\ ERAdd 3 /\ True) /\ (GRAdd2 a0 a1 a2 a3) /\ (GRAdd2 b0 b1 b2 b3) /\ (GRAdd1 0) /\ (ERAdd v8.fst /\ ERAdd v16.fst /\ ERAdd v24.fst /\ v26 = x30.fst /\ True) /\ True)) /\ (v27 = true -> ∃ (x31 : Int × Int), (GRAdd3 x31.fst x31.snd a3 b3 v24.snd 0 1) /\ (True /\ True /\ True /\ ERAdd 0 /\ (1 : Int) = x31.snd /\ True /\ ERAdd 3 /\ True) /\ (GRAdd2 a0 a1 a2 a3) /\ (GRAdd2 b0 b1 b2 b3) /\ (GRAdd1 0) /\ (ERAdd v8.fst /\ ERAdd v16.fst /\ ERAdd v24.fst /\ v26 = x31.fst /\ True) /\ True)) /\ ∀ (v32 : Int × Int), v32.fst + v32.snd * (18446744073709551616 : Int) = a3 + b3 + v24.snd /\ U64 v32.fst /\ (0 : Int) ≤ v32.snd /\ v32.snd ≤ (1 : Int) -> ((IntKind.u64 = IntKind.u64 /\ v8.fst = limb (val4 a0 a1 a2 a3 + val4 b0 b1 b2 b3) 0) /\ (IntKind.u64 = IntKind.u64 /\ v16.fst = limb (val4 a0 a1 a2 a3 + val4 b0 b1 b2 b3) 1) /\ (IntKind.u64 = IntKind.u64 /\ v24.fst = limb (val4 a0 a1 a2 a3 + val4 b0 b1 b2 b3) 2) /\ (IntKind.u64 = IntKind.u64 /\ v32.fst = limb (val4 a0 a1 a2 a3 + val4 b0 b1 b2 b3) 3) /\ True) /\ (IntKind.u64 = IntKind.u64 /\ v32.snd = (val4 a0 a1 a2 a3 + val4 b0 b1 b2 b3) / (115792089237316195423570985008687907853269984665640564039457584007913129639936 : Int)) /\ True
theorem tieRAdd (w0 : World) (a0 : Int) (a1 : Int) (a2 : Int) (a3 : Int) (b0 : Int) (b1 : Int) (b2 : Int) (b3 : Int) : VCRAdd a0 a1 a2 a3 b0 b1 b2 b3 = ((recN (GL Tryd.prog carrySpec rAnnSpec rCutSpec w0) 30).call 14 [.agg [.int .u64 (.sym a0), .int .u64 (.sym a1), .int .u64 (.sym a2), .int .u64 (.sym a3)], .agg [.int .u64 (.sym b0), .int .u64 (.sym b1), .int .u64 (.sym b2), .int .u64 (.sym b3)]] [] (fun r__ _ => eqV r__ (.tup [.agg [.int .u64 (.sym (limb ((val4 a0 a1 a2 a3) + (val4 b0 b1 b2 b3)) 0)), .int .u64 (.sym (limb ((val4 a0 a1 a2 a3) + (val4 b0 b1 b2 b3)) 1)), .int .u64 (.sym (limb ((val4 a0 a1 a2 a3) + (val4 b0 b1 b2 b3)) 2)), .int .u64 (.sym (limb ((val4 a0 a1 a2 a3) + (val4 b0 b1 b2 b3)) 3))], .int .u64 (.sym (((val4 a0 a1 a2 a3) + (val4 b0 b1 b2 b3)) / 115792089237316195423570985008687907853269984665640564039457584007913129639936))]))) := by kernel_rfl
theorem pureRAdd (a0 a1 a2 a3 b0 b1 b2 b3 : Int) (h : U64 a0 ∧ U64 a1 ∧ U64 a2 ∧ U64 a3 ∧ U64 b0 ∧ U64 b1 ∧ U64 b2 ∧ U64 b3) : VCRAdd a0 a1 a2 a3 b0 b1 b2 b3 := by
  obtain ⟨ha0, ha1, ha2, ha3, hb0, hb1, hb2, hb3⟩ := h
  unfold U64 at ha0 ha1 ha2 ha3 hb0 hb1 hb2 hb3
  refine ⟨?_, ?_⟩
  · intro v1 h1 v2 h2
    rw [w_u64] at h1 h2
    refine rb (fun e3 => br (fun e4 => ⟨(v2, 1), ⟨by simp only; omega, ⟨by simp only; omega, by simp only; omega⟩, by simp, by simp⟩, by simp⟩) (fun e4 => ⟨(v2, 0), ⟨by simp only; omega, ⟨by simp only; omega, by simp only; omega⟩, by simp, by simp⟩, by simp⟩)) (fun e3 => ⟨(v2, 1), ⟨by simp only; omega, ⟨by simp only; omega, by simp only; omega⟩, by simp, by simp⟩, by simp⟩)
  rintro ⟨o0, c0⟩ ⟨g0, ⟨p0, p0'⟩, q0, q0'⟩
  simp only at g0 p0 p0' q0 q0'
  refine ⟨?_, ?_⟩
  · intro v1 h1 v2 h2
    rw [w_u64] at h1 h2
    refine rb (fun e3 => br (fun e4 => ⟨(v2, 1), ⟨by simp only; omega, ⟨by simp only; omega, by simp only; omega⟩, by simp, by simp⟩, by simp⟩) (fun e4 => ⟨(v2, 0), ⟨by simp only; omega, ⟨by simp only; omega, by simp only; omega⟩, by simp, by simp⟩, by simp⟩)) (fun e3 => ⟨(v2, 1), ⟨by simp only; omega, ⟨by simp only; omega, by simp only; omega⟩, by simp, by simp⟩, by simp⟩)
  rintro ⟨o1, c1⟩ ⟨g1, ⟨p1, p1'⟩, q1, q1'⟩
  simp only at g1 p1 p1' q1 q1'
  refine ⟨?_, ?_⟩
  · intro v1 h1 v2 h2
    rw [w_u64] at h1 h2
    refine rb (fun e3 => br (fun e4 => ⟨(v2, 1), ⟨by simp only; omega, ⟨by simp only; omega, by simp only; omega⟩, by simp, by simp⟩, by simp⟩) (fun e4 => ⟨(v2, 0), ⟨by simp only; omega, ⟨by simp only; omega, by simp only; omega⟩, by simp, by simp⟩, by simp⟩)) (fun e3 => ⟨(v2, 1), ⟨by simp only; omega, ⟨by simp only; omega, by simp only; omega⟩, by simp, by simp⟩, by simp⟩)
  rintro ⟨o2, c2⟩ ⟨g2, ⟨p2, p2'⟩, q2, q2'⟩
  simp only at g2 p2 p2' q2 q2'
  refine ⟨?_, ?_⟩
  · intro v1 h1 v2 h2
    rw [w_u64] at h1 h2
    refine rb (fun e3 => br (fun e4 => ⟨(v2, 1), ⟨by simp only; omega, ⟨by simp only; omega, by simp only; omega⟩, by simp, by simp⟩, by simp⟩) (fun e4 => ⟨(v2, 0), ⟨by simp only; omega, ⟨by simp only; omega, by simp only; omega⟩, by simp, by simp⟩, by simp⟩)) (fun e3 => ⟨(v2, 1), ⟨by simp only; omega, ⟨by simp only; omega, by simp only; omega⟩, by simp, by simp⟩, by simp⟩)
  rintro ⟨o3, c3⟩ ⟨g3, ⟨p3, p3'⟩, q3, q3'⟩
  simp only at g3 p3 p3' q3 q3'
  have hs : val4 a0 a1 a2 a3 + val4 b0 b1 b2 b3 = val4 o0 o1 o2 o3 + c3 * 115792089237316195423570985008687907853269984665640564039457584007913129639936 := by unfold val4; omega
  rw [hs]
  obtain ⟨l0, l1, l2, l3⟩ := limbs4 c3 ⟨p0, p0'⟩ ⟨p1, p1'⟩ ⟨p2, p2'⟩ ⟨p3, p3'⟩
  refine ⟨⟨⟨rfl, l0.symm⟩, ⟨rfl, l1.symm⟩, ⟨rfl, l2.symm⟩, ⟨rfl, l3.symm⟩, trivial⟩, ⟨rfl, ?_⟩, trivial⟩
  have := val4_lt ⟨p0, p0'⟩ ⟨p1, p1'⟩ ⟨p2, p2'⟩ ⟨p3, p3'⟩
  omega
theorem rAdd_ok : SpecOk Tryd.prog 14 rAddSpec := by
  intro args k h
  unfold rAddSpec at h
  split at h
  · rename_i a0 a1 a2 a3 b0 b1 b2 b3
    obtain ⟨hr, h⟩ := h
    exact ⟨_, h _ rfl _ rfl, PureOk.of_tie (GL Tryd.prog carrySpec rAnnSpec rCutSpec) (fun w__ => gokL w__ namesOk_ mixed_ carry_ok) (fun _ => rfl) (fun _ => rfl) (args' := [.agg [.int .u64 (.sym a0.val), .int .u64 (.sym a1.val), .int .u64 (.sym a2.val), .int .u64 (.sym a3.val)], .agg [.int .u64 (.sym b0.val), .int .u64 (.sym b1.val), .int .u64 (.sym b2.val), .int .u64 (.sym b3.val)]]) ⟨⟨⟨rfl, rfl⟩, ⟨rfl, rfl⟩, ⟨rfl, rfl⟩, ⟨rfl, rfl⟩, trivial⟩, ⟨⟨rfl, rfl⟩, ⟨rfl, rfl⟩, ⟨rfl, rfl⟩, ⟨rfl, rfl⟩, trivial⟩, trivial⟩ 30 (fun w__ => VCRAdd a0.val a1.val a2.val a3.val b0.val b1.val b2.val b3.val) (fun w__ => tieRAdd w__ a0.val a1.val a2.val a3.val b0.val b1.val b2.val b3.val) (fun w__ => pureRAdd a0.val a1.val a2.val a3.val b0.val b1.val b2.val b3.val hr)⟩
  · exact h.elim

def rSubSpec : CSpec
  | [.agg [.int .u64 a0, .int .u64 a1, .int .u64 a2, .int .u64 a3], .agg [.int .u64 b0, .int .u64 b1, .int .u64 b2, .int .u64 b3]], k => ((U64 a0.val) ∧ (U64 a1.val) ∧ (U64 a2.val) ∧ (U64 a3.val) ∧ (U64 b0.val) ∧ (U64 b1.val) ∧ (U64 b2.val) ∧ (U64 b3.val)) ∧ (∀ r0 : Int, r0 = ((val4 a0.val a1.val a2.val a3.val) - (val4 b0.val b1.val b2.val b3.val)) → ∀ r1 : Int, r1 = (if (val4 a0.val a1.val a2.val a3.val) < (val4 b0.val b1.val b2.val b3.val) then 1 else 0) → k (.tup [.agg [.int .u64 (.sym (limb r0 0)), .int .u64 (.sym (limb r0 1)), .int .u64 (.sym (limb r0 2)), .int .u64 (.sym (limb r0 3))], .int .u64 (.sym r1)]))
  | _, _ => False
@[simp] abbrev GRSub1 (y0 : Int) : Prop := y0 = y0 ∧ y0 = y0 ∧ y0 = y0 ∧ y0 = y0 ∧ True
@[simp] abbrev GRSub2 (y0 y1 y2 y3 : Int) : Prop := y0 = y0 ∧ y1 = y1 ∧ y2 = y2 ∧ y3 = y3 ∧ True
@[simp] abbrev GRSub3 (y0 y1 y2 y3 y4 y5 y6 : Int) : Prop := y0 - y1 * (18446744073709551616 : Int) = y2 - y3 - y4 ∧ U64 y0 ∧ y5 ≤ y1 ∧ y1 ≤ y6
@[simp] abbrev ERSub (y : Int) : Prop := y = y
def VCRSub (a0 : Int) (a1 : Int) (a2 : Int) (a3 : Int) (b0 : Int) (b1 : Int) (b2 : Int) (b3 : Int) : Prop :=
  (∀ v1, v1 = IntKind.u64.wrap (a0 - b0) -> ∀ v2, v2 = IntKind.u64.wrap (v1 - (0 : Int)) -> ∀ v3, v3 = decide (a0 < b0) -> (v3 = false -> ∀ v4, v4 = decide (v1 < (0 : Int)) -> (v4 = true -> ∃ (x5 : Int × Int), (x5.fst - x5.snd * (18446744073709551616 : Int) = a0 - b0 - (0 : Int) /\ U64 x5.fst /\ (0 : Int) ≤ x5.snd /\ x5.snd ≤ (1 : Int)) /\ (True /\ True /\ True /\ ERSub 0 /\ (1 : Int) = x5.snd /\ True /\ ERSub 0 /\ True) /\ (GRSub2 a0 a1 a2 a3) /\ (GRSub2 b0 b1 b2 b3) /\ (GRSub1 0) /\ (v2 = x5.fst /\ (0 : Int) = (0 : Int) /\ ERSub 0 /\ ERSub 0 /\ True) /\ True) /\ (v4 = false -> ∃ (x6 : Int × Int), (x6.fst - x6.snd * (18446744073709551616 : Int) = a0 - b0 - (0 : Int) /\ U64 x6.fst /\ (0 : Int) ≤ x6.snd /\ x6.snd ≤ (1 : Int)) /\ (True /\ True /\ True /\ ERSub 0 /\ (0 : Int) = x6.snd /\ True /\ ERSub 0 /\ True) /\ (GRSub2 a0 a1 a2 a3) /\ (GRSub2 b0 b1 b2 b3) /\ (GRSub1 0) /\ (v2 = x6.fst /\ (0 : Int) = (0 : Int) /\ ERSub 0 /\ ERSub 0 /\ True) /\ True)) /\ (v3 = true -> ∃ (x7 : Int × Int), (x7.fst - x7.snd * (18446744073709551616 : Int) = a0 - b0 - (0 : Int) /\ U64 x7.fst /\ (0 : Int) ≤ x7.snd /\ x7.snd ≤ (1 : Int)) /\ (True /\ True /\ True /\ ERSub 0 /\ (1 : Int) = x7.snd /\ True /\ ERSub 0 /\ True) /\ (GRSub2 a0 a1 a2 a3) /\ (GRSub2 b0 b1 b2 b3) /\ (GRSub1 0) /\ (v2 = x7.fst /\ (0 : Int) = (0 : Int) /\ ERSub 0 /\ ERSub 0 /\ True) /\ True)) /\ ∀ (v8 : Int × Int), v8.fst - v8.snd * (18446744073709551616 : Int) = a0 - b0 - (0 : Int) /\ U64 v8.fst /\ (0 : Int) ≤ v8.snd /\ v8.snd ≤ (1 : Int) -> (∀ v9, v9 = IntKind.u64.wrap (a1 - b1) -> ∀ v10, v10 = IntKind.u64.wrap (v9 - v8.snd) -> ∀ v11, v11 = decide (a1 < b1) -> (v11 = false -> ∀ v12, v12 = decide (v9 < v8.snd) -> (v12 = true -> ∃ (x13 : Int × Int), (GRSub3 x13.fst x13.snd a1 b1 v8.snd 0 1) /\ (True /\ True /\ True /\ ERSub 0 /\ (1 : Int) = x13.snd /\ True /\ ERSub 1 /\ True) /\ (GRSub2 a0 a1 a2 a3) /\ (GRSub2 b0 b1 b2 b3) /\ (GRSub1 0) /\ (ERSub v8.fst /\ v10 = x13.fst /\ ERSub 0 /\ ERSub 0 /\ True) /\ True) /\ (v12 = false -> ∃ (x14 : Int × Int), (GRSub3 x14.fst x14.snd a1 b1 v8.snd 0 1) /\ (True /\ True /\ True /\ ERSub 0 /\ (0 : Int) = x14.snd /\ True /\ ERSub 1 /\ True) /\ (GRSub2 a0 a1 a2 a3) /\ (GRSub2 b0 b1 b2 b3) /\ (GRSub1 0) /\ (ERSub v8.fst /\ v10 = x14.fst /\ ERSub 0 /\ ERSub 0 /\ True) /\ True)) /\ (v11 = true -> ∃ (x15 : Int × Int), (GRSub3 x15.fst x15.snd a1 b1 v8.snd 0 1) /\ (True /\ True /\ True /\ ERSub 0 /\ (1 : Int) = x15.snd /\ True /\ ERSub 1 /\ True) /\ (GRSub2 a0 a1 a2 a3) /\ (GRSub2 b0 b1 b2 b3) /\ (GRSub1 0) /\ (ERSub v8.fst /\ v10 = x15.fst /\ ERSub 0 /\ ERSub 0 /\ True) /\ True)) /\ ∀ (v16 : Int × Int), v16.fst - v16.snd * (18446744073709551616 : Int) = a1 - b1 - v8.snd /\ U64 v16.fst /\ (0 : Int) ≤ v16.snd /\ v16.snd ≤ (1 : Int) -> (∀ v17, v17 = IntKind.u64.wrap (a2 - b2) -> ∀ v18, v18 = IntKind.u64.wrap (v17 - v16.snd) -> ∀ v19, v19 = decide (a2 < b2) -> (v19 = false -> ∀ v20, v20 = decide (v17 < v16.snd) -> (v20 = true -> ∃ (x21 : Int × Int), (GRSub3 x21.fst x21.snd a2 b2 v16.snd 0 1) /\ (True /\ True /\ True /\ ERSub 0 /\ (1 : Int) = x21.snd /\ True /\ ERSub 2 /\ True) /\ (GRSub2 a0 a1 a2 a3) /\ (GRSub2 b0 b1 b2 b3) /\ (GRSub1 0) /\ (ERSub v8.fst /\ ERSub v16.fst /\ v18 = x21.fst /\ ERSub 0 /\ True) /\ True) /\ (v20 = false -> ∃ (x22 : Int × Int), (GRSub3 x22.fst x22.snd a2 b2 v16.snd 0 1) /\ (True /\ True /\ True /\ ERSub 0 /\ (0 : Int) = x22.snd /\ True /\ ERSub 2 /\ True) /\ (GRSub2 a0 a1 a2 a3) /\ (GRSub2 b0 b1 b2 b3) /\ (GRSub1 0) /\ (ERSub v8.fst /\ ERSub v16.fst /\ v18 = x22.fst /\ ERSub 0 /\ True) /\ True)) /\ (v19 = true -> ∃ (x23 : Int × Int), (GRSub3 x23.fst x23.snd a2 b2 v16.snd 0 1) /\ (True /\ True /\ True /\ ERSub 0 /\ (1 : Int) = x23.snd /\ True /\ ERSub 2 /\ True) /\ (GRSub2 a0 a1 a2 a3) /\ (GRSub2 b0 b1 b2 b3) /\ (GRSub1 0) /\ (ERSub v8.fst /\ ERSub v16.fst /\ v18 = x23.fst /\ ERSub 0 /\ True) /\ True)) /\ ∀ (v24 : Int × Int), v24.fst - v24.snd * (18446744073709551616 : Int) = a2 - b2 - v16.snd /\ U64 v24.fst /\ (0 : Int) ≤ v24.snd /\ v24.snd ≤ (1 : Int) -> (∀ v25, v25 = IntKind.u64.wrap (a3 - b3) -> ∀ v26, v26 = IntKind.u64.wrap (v25 - v24.snd) -> ∀ v27, v27 = decide (a3 < b3) -> (v27 = false -> ∀ v28, v28 = decide (v25 < v24.snd) -> (v28 = true -> ∃ (x29 : Int × Int), (GRSub3 x29.fst x29.snd a3 b3 v24.snd 0 1) /\ (True /\ True /\ True /\ ERSub 0 /\ (1 : Int) = x29.snd /\ True /\ ERSub 3 /\ True) /\ (GRSub2 a0 a1 a2 a3) /\ (GRSub2 b0 b1 b2 b3) /\ (GRSub1 0) /\ (ERSub v8.fst /\ ERSub v16.fst /\ ERSub v24.fst /\ v26 = x29.fst /\ True) /\ True) /\ (v28 = false -> ∃ (x30 : Int × Int), (GRSub3 x30.fst x30.snd a3 b3 v24.snd 0 1) /\ (True /\ True /\ True /\ ERSub 0 /\ (0 : Int) = x30.snd /\ True /\ ERSub 3 /\ True) /\ (GRSub2 a0 a1 a2 a3) /\ (GRSub2 b0 b1 b2 b3) /\ (GRSub1 0) /\ (ERSub v8.fst /\ ERSub v16.fst /\ ERSub v24.fst /\ v26 = x30.fst /\ True) /\ True)) /\ (v27 = true -> ∃ (x31 : Int × Int), (GRSub3 x31.fst x31.snd a3 b3 v24.snd 0 1) /\ (True /\ True /\ True /\ ERSub 0 /\ (1 : Int) = x31.snd /\ True /\ ERSub 3 /\ True) /\ (GRSub2 a0 a1 a2 a3) /\ (GRSub2 b0 b1 b2 b3) /\ (GRSub1 0) /\ (ERSub v8.fst /\ ERSub v16.fst /\ ERSub v24.fst /\ v26 = x31.fst /\ True) /\ True)) /\ ∀ (v32 : Int × Int), v32.fst - v32.snd * (18446744073709551616 : Int) = a3 - b3 - v24.snd /\ U64 v32.fst /\ (0 : Int) ≤ v32.snd /\ v32.snd ≤ (1 : Int) -> ((IntKind.u64 = IntKind.u64 /\ v8.fst = limb (val4 a0 a1 a2 a3 - val4 b0 b1 b2 b3) 0) /\ (IntKind.u64 = IntKind.u64 /\ v16.fst = limb (val4 a0 a1 a2 a3 - val4 b0 b1 b2 b3) 1) /\ (IntKind.u64 = IntKind.u64 /\ v24.fst = limb (val4 a0 a1 a2 a3 - val4 b0 b1 b2 b3) 2) /\ (IntKind.u64 = IntKind.u64 /\ v32.fst = limb (val4 a0 a1 a2 a3 - val4 b0 b1 b2 b3) 3) /\ True) /\ (IntKind.u64 = IntKind.u64 /\ v32.snd = if val4 a0 a1 a2 a3 < val4 b0 b1 b2 b3 then 1 else 0) /\ True
theorem tieRSub (w0 : World) (a0 : Int) (a1 : Int) (a2 : Int) (a3 : Int) (b0 : Int) (b1 : Int) (b2 : Int) (b3 : Int) : VCRSub a0 a1 a2 a3 b0 b1 b2 b3 = ((recN (GL Tryd.prog carrySpec rAnnSpec rCutSpec w0) 30).call 16 [.agg [.int .u64 (.sym a0), .int .u64 (.sym a1), .int .u64 (.sym a2), .int .u64 (.sym a3)], .agg [.int .u64 (.sym b0), .int .u64 (.sym b1), .int .u64 (.sym b2), .int .u64 (.sym b3)]] [] (fun r__ _ => eqV r__ (.tup [.agg [.int .u64 (.sym (limb ((val4 a0 a1 a2 a3) - (val4 b0 b1 b2 b3)) 0)), .int .u64 (.sym (limb ((val4 a0 a1 a2 a3) - (val4 b0 b1 b2 b3)) 1)), .int .u64 (.sym (limb ((val4 a0 a1 a2 a3) - (val4 b0 b1 b2 b3)) 2)), .int .u64 (.sym (limb ((val4 a0 a1 a2 a3) - (val4 b0 b1 b2 b3)) 3))], .int .u64 (.sym (if (val4 a0 a1 a2 a3) < (val4 b0 b1 b2 b3) then 1 else 0))]))) := by kernel_rfl
theorem pureRSub (a0 a1 a2 a3 b0 b1 b2 b3 : Int) (h : U64 a0 ∧ U64 a1 ∧ U64 a2 ∧ U64 a3 ∧ U64 b0 ∧ U64 b1 ∧ U64 b2 ∧ U64 b3) : VCRSub a0 a1 a2 a3 b0 b1 b2 b3 := by
  obtain ⟨ha0, ha1, ha2, ha3, hb0, hb1, hb2, hb3⟩ := h
  unfold U64 at ha0 ha1 ha2 ha3 hb0 hb1 hb2 hb3
  refine ⟨?_, ?_⟩
  · intro v1 h1 v2 h2
    rw [w_u64] at h1 h2
    refine rb (fun e3 => br (fun e4 => ⟨(v2, 1), ⟨by simp only; omega, ⟨by simp only; omega, by simp only; omega⟩, by simp, by simp⟩, by simp⟩) (fun e4 => ⟨(v2, 0), ⟨by simp only; omega, ⟨by simp only; omega, by simp only; omega⟩, by simp, by simp⟩, by simp⟩)) (fun e3 => ⟨(v2, 1), ⟨by simp only; omega, ⟨by simp only; omega, by simp only; omega⟩, by simp, by simp⟩, by simp⟩)
  rintro ⟨o0, c0⟩ ⟨g0, ⟨p0, p0'⟩, q0, q0'⟩
  simp only at g0 p0 p0' q0 q0'
  refine ⟨?_, ?_⟩
  · intro v1 h1 v2 h2
    rw [w_u64] at h1 h2
    refine rb (fun e3 => br (fun e4 => ⟨(v2, 1), ⟨by simp only; omega, ⟨by simp only; omega, by simp only; omega⟩, by simp, by simp⟩, by simp⟩) (fun e4 => ⟨(v2, 0), ⟨by simp only; omega, ⟨by simp only; omega, by simp only; omega⟩, by simp, by simp⟩, by simp⟩)) (fun e3 => ⟨(v2, 1), ⟨by simp only; omega, ⟨by simp only; omega, by simp only; omega⟩, by simp, by simp⟩, by simp⟩)
  rintro ⟨o1, c1⟩ ⟨g1, ⟨p1, p1'⟩, q1, q1'⟩
  simp only at g1 p1 p1' q1 q1'
  refine ⟨?_, ?_⟩
  · intro v1 h1 v2 h2
    rw [w_u64] at h1 h2
    refine rb (fun e3 => br (fun e4 => ⟨(v2, 1), ⟨by simp only; omega, ⟨by simp only; omega, by simp only; omega⟩, by simp, by simp⟩, by simp⟩) (fun e4 => ⟨(v2, 0), ⟨by simp only; omega, ⟨by simp only; omega, by simp only; omega⟩, by simp, by simp⟩, by simp⟩)) (fun e3 => ⟨(v2, 1), ⟨by simp only; omega, ⟨by simp only; omega, by simp only; omega⟩, by simp, by simp⟩, by simp⟩)
  rintro ⟨o2, c2⟩ ⟨g2, ⟨p2, p2'⟩, q2, q2'⟩
  simp only at g2 p2 p2' q2 q2'
  refine ⟨?_, ?_⟩
  · intro v1 h1 v2 h2
    rw [w_u64] at h1 h2
    refine rb (fun e3 => br (fun e4 => ⟨(v2, 1), ⟨by simp only; omega, ⟨by simp only; omega, by simp only; omega⟩, by simp, by simp⟩, by simp⟩) (fun e4 => ⟨(v2, 0), ⟨by simp only; omega, ⟨by simp only; omega, by simp only; omega⟩, by simp, by simp⟩, by simp⟩)) (fun e3 => ⟨(v2, 1), ⟨by simp only; omega, ⟨by simp only; omega, by simp only; omega⟩, by simp, by simp⟩, by simp⟩)
  rintro ⟨o3, c3⟩ ⟨g3, ⟨p3, p3'⟩, q3, q3'⟩
  simp only at g3 p3 p3' q3 q3'
  have hs : val4 a0 a1 a2 a3 - val4 b0 b1 b2 b3 = val4 o0 o1 o2 o3 + (-c3) * 115792089237316195423570985008687907853269984665640564039457584007913129639936 := by unfold val4; omega
  have hlt : (val4 a0 a1 a2 a3 < val4 b0 b1 b2 b3) ↔ c3 = 1 := by
    have := val4_lt ⟨p0, p0'⟩ ⟨p1, p1'⟩ ⟨p2, p2'⟩ ⟨p3, p3'⟩
    constructor <;> intro <;> omega
  rw [hs]
  obtain ⟨l0, l1, l2, l3⟩ := limbs4 (-c3) ⟨p0, p0'⟩ ⟨p1, p1'⟩ ⟨p2, p2'⟩ ⟨p3, p3'⟩
  refine ⟨⟨⟨rfl, l0.symm⟩, ⟨rfl, l1.symm⟩, ⟨rfl, l2.symm⟩, ⟨rfl, l3.symm⟩, trivial⟩, ⟨rfl, ?_⟩, trivial⟩
  by_cases e : val4 a0 a1 a2 a3 < val4 b0 b1 b2 b3
  · rw [if_pos e]; have := hlt.1 e; omega
  · rw [if_neg e]; have : ¬ c3 = 1 := fun k => e (hlt.2 k); omega
theorem rSub_ok : SpecOk Tryd.prog 16 rSubSpec := by
  intro args k h
  unfold rSubSpec at h
  split at h
  · rename_i a0 a1 a2 a3 b0 b1 b2 b3
    obtain ⟨hr, h⟩ := h
    exact ⟨_, h _ rfl _ rfl, PureOk.of_tie (GL Tryd.prog carrySpec rAnnSpec rCutSpec) (fun w__ => gokL w__ namesOk_ mixed_ carry_ok) (fun _ => rfl) (fun _ => rfl) (args' := [.agg [.int .u64 (.sym a0.val), .int .u64 (.sym a1.val), .int .u64 (.sym a2.val), .int .u64 (.sym a3.val)], .agg [.int .u64 (.sym b0.val), .int .u64 (.sym b1.val), .int .u64 (.sym b2.val), .int .u64 (.sym b3.val)]]) ⟨⟨⟨rfl, rfl⟩, ⟨rfl, rfl⟩, ⟨rfl, rfl⟩, ⟨rfl, rfl⟩, trivial⟩, ⟨⟨rfl, rfl⟩, ⟨rfl, rfl⟩, ⟨rfl, rfl⟩, ⟨rfl, rfl⟩, trivial⟩, trivial⟩ 30 (fun w__ => VCRSub a0.val a1.val a2.val a3.val b0.val b1.val b2.val b3.val) (fun w__ => tieRSub w__ a0.val a1.val a2.val a3.val b0.val b1.val b2.val b3.val) (fun w__ => pureRSub a0.val a1.val a2.val a3.val b0.val b1.val b2.val b3.val hr)⟩
  · exact h.elim

def rCmpSpec : CSpec
  | [.agg [.int .u64 a0, .int .u64 a1, .int .u64 a2, .int .u64 a3], .agg [.int .u64 b0, .int .u64 b1, .int .u64 b2, .int .u64 b3]], k => ((U64 a0.val) ∧ (U64 a1.val) ∧ (U64 a2.val) ∧ (U64 a3.val) ∧ (U64 b0.val) ∧ (U64 b1.val) ∧ (U64 b2.val) ∧ (U64 b3.val)) ∧ (∀ r0 : Int, r0 = (cmpF (val4 a0.val a1.val a2.val a3.val) (val4 b0.val b1.val b2.val b3.val)) → k (.int .i64 (.sym r0)))
  | _, _ => False
def VCRCmp (a0 : Int) (a1 : Int) (a2 : Int) (a3 : Int) (b0 : Int) (b1 : Int) (b2 : Int) (b3 : Int) : Prop :=
  ∀ v1, v1 = decide (a3 < b3) -> (v1 = true -> IntKind.i64 = IntKind.i64 /\ (-1 : Int) = cmpF (val4 a0 a1 a2 a3) (val4 b0 b1 b2 b3)) /\ (v1 = false -> ∀ v2, v2 = decide (a3 > b3) -> (v2 = true -> IntKind.i64 = IntKind.i64 /\ (1 : Int) = cmpF (val4 a0 a1 a2 a3) (val4 b0 b1 b2 b3)) /\ (v2 = false -> ∀ v3, v3 = decide (a2 < b2) -> (v3 = true -> IntKind.i64 = IntKind.i64 /\ (-1 : Int) = cmpF (val4 a0 a1 a2 a3) (val4 b0 b1 b2 b3)) /\ (v3 = false -> ∀ v4, v4 = decide (a2 > b2) -> (v4 = true -> IntKind.i64 = IntKind.i64 /\ (1 : Int) = cmpF (val4 a0 a1 a2 a3) (val4 b0 b1 b2 b3)) /\ (v4 = false -> ∀ v5, v5 = decide (a1 < b1) -> (v5 = true -> IntKind.i64 = IntKind.i64 /\ (-1 : Int) = cmpF (val4 a0 a1 a2 a3) (val4 b0 b1 b2 b3)) /\ (v5 = false -> ∀ v6, v6 = decide (a1 > b1) -> (v6 = true -> IntKind.i64 = IntKind.i64 /\ (1 : Int) = cmpF (val4 a0 a1 a2 a3) (val4 b0 b1 b2 b3)) /\ (v6 = false -> ∀ v7, v7 = decide (a0 < b0) -> (v7 = true -> IntKind.i64 = IntKind.i64 /\ (-1 : Int) = cmpF (val4 a0 a1 a2 a3) (val4 b0 b1 b2 b3)) /\ (v7 = false -> ∀ v8, v8 = decide (a0 > b0) -> (v8 = true -> IntKind.i64 = IntKind.i64 /\ (1 : Int) = cmpF (val4 a0 a1 a2 a3) (val4 b0 b1 b2 b3)) /\ (v8 = false -> IntKind.i64 = IntKind.i64 /\ (0 : Int) = cmpF (val4 a0 a1 a2 a3) (val4 b0 b1 b2 b3)))))))))
theorem tieRCmp (w0 : World) (a0 : Int) (a1 : Int) (a2 : Int) (a3 : Int) (b0 : Int) (b1 : Int) (b2 : Int) (b3 : Int) : VCRCmp a0 a1 a2 a3 b0 b1 b2 b3 = ((recN (GC Tryd.prog carrySpec w0) 30).call 18 [.agg [.int .u64 (.sym a0), .int .u64 (.sym a1), .int .u64 (.sym a2), .int .u64 (.sym a3)], .agg [.int .u64 (.sym b0), .int .u64 (.sym b1), .int .u64 (.sym b2), .int .u64 (.sym b3)]] [] (fun r__ _ => eqV r__ (.int .i64 (.sym (cmpF (val4 a0 a1 a2 a3) (val4 b0 b1 b2 b3)))))) := by kernel_rfl
theorem pureRCmp (a0 a1 a2 a3 b0 b1 b2 b3 : Int) (h : U64 a0 ∧ U64 a1 ∧ U64 a2 ∧ U64 a3 ∧ U64 b0 ∧ U64 b1 ∧ U64 b2 ∧ U64 b3) : VCRCmp a0 a1 a2 a3 b0 b1 b2 b3 := by
  obtain ⟨ha0, ha1, ha2, ha3, hb0, hb1, hb2, hb3⟩ := h
  unfold U64 at ha0 ha1 ha2 ha3 hb0 hb1 hb2 hb3
  unfold VCRCmp
  repeat' (first | refine br (fun _ => ?_) (fun _ => ?_) | refine rb (fun _ => ?_) (fun _ => ?_))
  all_goals
    refine ⟨rfl, ?_⟩
    unfold cmpF val4
    (repeat' split) <;> omega
theorem rCmp_ok : SpecOk Tryd.prog 18 rCmpSpec := by
  intro args k h
  unfold rCmpSpec at h
  split at h
  · rename_i a0 a1 a2 a3 b0 b1 b2 b3
    obtain ⟨hr, h⟩ := h
    exact ⟨_, h _ rfl, PureOk.of_tie (GC Tryd.prog carrySpec) (fun w__ => gok w__ namesOk_ mixed_ carry_ok) (fun _ => rfl) (fun _ => rfl) (args' := [.agg [.int .u64 (.sym a0.val), .int .u64 (.sym a1.val), .int .u64 (.sym a2.val), .int .u64 (.sym a3.val)], .agg [.int .u64 (.sym b0.val), .int .u64 (.sym b1.val), .int .u64 (.sym b2.val), .int .u64 (.sym b3.val)]]) ⟨⟨⟨rfl, rfl⟩, ⟨rfl, rfl⟩, ⟨rfl, rfl⟩, ⟨rfl, rfl⟩, trivial⟩, ⟨⟨rfl, rfl⟩, ⟨rfl, rfl⟩, ⟨rfl, rfl⟩, ⟨rfl, rfl⟩, trivial⟩, trivial⟩ 30 (fun w__ => VCRCmp a0.val a1.val a2.val a3.val b0.val b1.val b2.val b3.val) (fun w__ => tieRCmp w__ a0.val a1.val a2.val a3.val b0.val b1.val b2.val b3.val) (fun w__ => pureRCmp a0.val a1.val a2.val a3.val b0.val b1.val b2.val b3.val hr)⟩
  · exact h.elim

end Go.Proofs.YtaaobpalpcdlbaaDoor.Bits
