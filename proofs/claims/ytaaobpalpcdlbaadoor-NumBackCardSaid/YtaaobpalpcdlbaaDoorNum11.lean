import Derived.Test.YtaaobpalpcdlbaaDoorSxR
import Derived.Test.YtaaobpalpcdlbaaDoorProg
import Derived.Test.YtaaobpalpcdlbaaDoorDv4
import Derived.KernelRfl
namespace Go.Proofs.YtaaobpalpcdlbaaDoor.Bits
open Go Go.Sx Go.RowKit
set_option linter.unusedVariables false
set_option maxRecDepth 100000
def modF (x m : Int) : Int := if m = 0 then 0 else x % m
def md1Spec : List (FuncId × CSpec) := [(8, divSpec), (11, cmpSpec), (13, addSpec), (15, subSpec), (12, mulSpec)]
theorem md1_ok : SpecsOk Tryd.prog md1Spec := ⟨div_ok, cmp_ok, add_ok, sub_ok, mul_ok, trivial⟩
theorem limbE (x : Int) : limb x 0 = x % 18446744073709551616 ∧ limb x 1 = x / 18446744073709551616 % 18446744073709551616 ∧ limb x 2 = x / 340282366920938463463374607431768211456 % 18446744073709551616 ∧ limb x 3 = x / 6277101735386680763835789423207666416102355444464034512896 % 18446744073709551616 :=
  ⟨by unfold limb; simp, rfl, rfl, rfl⟩
theorem val4_limb (x : Int) : val4 (limb x 0) (limb x 1) (limb x 2) (limb x 3) = x % 115792089237316195423570985008687907853269984665640564039457584007913129639936 := by
  obtain ⟨a, b, c, d⟩ := limbE x
  rw [a, b, c, d]; unfold val4; omega
theorem limb_in (x : Int) (j : Nat) : 0 ≤ limb x j ∧ limb x j ≤ 18446744073709551615 := by unfold limb; omega
theorem val4_limb' {x : Int} (h0 : 0 ≤ x) (h1 : x < 115792089237316195423570985008687907853269984665640564039457584007913129639936) : val4 (limb x 0) (limb x 1) (limb x 2) (limb x 3) = x := by
  rw [val4_limb]; exact Int.emod_eq_of_lt h0 h1
theorem modF_in {x m : Int} (hm : 0 ≤ m) : 0 ≤ modF x m ∧ (0 < m → modF x m < m) ∧ modF x m ≤ m := by
  unfold modF
  split
  · omega
  · have := Int.emod_nonneg x (show m ≠ 0 by omega)
    have := Int.emod_lt_of_pos x (show 0 < m by omega)
    omega
theorem rF_mod (lo m : Int) : rF lo 0 m = modF lo m := by unfold rF modF; simp
theorem rF_in {lo hi m : Int} (hm : 0 ≤ m) : 0 ≤ rF lo hi m ∧ rF lo hi m ≤ m := by
  have e : rF lo hi m = modF (hi * 115792089237316195423570985008687907853269984665640564039457584007913129639936 + lo) m := rfl
  rw [e]; have := modF_in (x := hi * 115792089237316195423570985008687907853269984665640564039457584007913129639936 + lo) hm; omega
end Go.Proofs.YtaaobpalpcdlbaaDoor.Bits
