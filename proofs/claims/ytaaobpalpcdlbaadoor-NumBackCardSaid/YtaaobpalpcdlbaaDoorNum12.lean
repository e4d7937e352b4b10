import Derived.Test.YtaaobpalpcdlbaaDoorSxR
import Derived.Test.YtaaobpalpcdlbaaDoorProg
import Derived.Test.YtaaobpalpcdlbaaDoorNum11
import Derived.KernelRfl
namespace Go.Proofs.YtaaobpalpcdlbaaDoor.Bits
open Go Go.Sx Go.RowKit
set_option linter.unusedVariables false
set_option maxRecDepth 100000
theorem limb_cong {x y : Int} (h : x % 115792089237316195423570985008687907853269984665640564039457584007913129639936 = y % 115792089237316195423570985008687907853269984665640564039457584007913129639936) : (IntKind.u64 = IntKind.u64 ∧ limb x 0 = limb y 0) ∧ (IntKind.u64 = IntKind.u64 ∧ limb x 1 = limb y 1) ∧ (IntKind.u64 = IntKind.u64 ∧ limb x 2 = limb y 2) ∧ (IntKind.u64 = IntKind.u64 ∧ limb x 3 = limb y 3) ∧ True := by
  obtain ⟨a, b, c, d⟩ := limbE x
  obtain ⟨a', b', c', d'⟩ := limbE y
  rw [a, b, c, d, a', b', c', d']
  refine ⟨⟨rfl, ?_⟩, ⟨rfl, ?_⟩, ⟨rfl, ?_⟩, ⟨rfl, ?_⟩, trivial⟩ <;> omega
theorem limb_eq {x y : Int} (h : x = y) : (IntKind.u64 = IntKind.u64 ∧ limb x 0 = limb y 0) ∧ (IntKind.u64 = IntKind.u64 ∧ limb x 1 = limb y 1) ∧ (IntKind.u64 = IntKind.u64 ∧ limb x 2 = limb y 2) ∧ (IntKind.u64 = IntKind.u64 ∧ limb x 3 = limb y 3) ∧ True := limb_cong (by rw [h])
theorem modF_add {a b m : Int} (hm : 0 ≤ m) : modF (a + b) m = if modF a m + modF b m < m ∨ m = 0 then modF a m + modF b m else modF a m + modF b m - m := by
  unfold modF
  by_cases h : m = 0
  · simp [h]
  · rw [if_neg h, if_neg h, if_neg h, Int.add_emod]
    have h1 := Int.emod_nonneg a h
    have h2 := Int.emod_nonneg b h
    have h3 := Int.emod_lt_of_pos a (show 0 < m by omega)
    have h4 := Int.emod_lt_of_pos b (show 0 < m by omega)
    generalize a % m = x at *
    generalize b % m = y at *
    split
    · exact Int.emod_eq_of_lt (by omega) (by omega)
    · rw [← Int.sub_emod_right]; exact Int.emod_eq_of_lt (by omega) (by omega)
theorem modF_sub {a b m : Int} (hm : 0 ≤ m) : modF (a - b) m = if modF a m < modF b m then modF a m - modF b m + m else modF a m - modF b m := by
  unfold modF
  by_cases h : m = 0
  · simp [h]
  · rw [if_neg h, if_neg h, if_neg h, Int.sub_emod]
    have h1 := Int.emod_nonneg a h
    have h2 := Int.emod_nonneg b h
    have h3 := Int.emod_lt_of_pos a (show 0 < m by omega)
    have h4 := Int.emod_lt_of_pos b (show 0 < m by omega)
    generalize a % m = x at *
    generalize b % m = y at *
    split
    · rw [← Int.add_emod_right]; exact Int.emod_eq_of_lt (by omega) (by omega)
    · exact Int.emod_eq_of_lt (by omega) (by omega)
end Go.Proofs.YtaaobpalpcdlbaaDoor.Bits
