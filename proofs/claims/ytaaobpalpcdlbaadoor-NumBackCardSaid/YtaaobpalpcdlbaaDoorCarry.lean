import Derived.Test.YtaaobpalpcdlbaaDoorSxR
import Derived.Test.YtaaobpalpcdlbaaDoorProg
import Derived.Shelf.Spec.BitsCarry
import Derived.KernelRfl
namespace Go.Proofs.YtaaobpalpcdlbaaDoor.Bits
open Go Go.Sx Go.RowKit
set_option linter.unusedVariables false
set_option maxRecDepth 100000
def c64 (x y c : Int) : Int := (x + y + c) / 18446744073709551616
def s64 (x y c : Int) : Int := (x + y + c) % 18446744073709551616
def b64 (x y c : Int) : Int := if x < y + c then 1 else 0
def d64 (x y c : Int) : Int := (x - y - c) % 18446744073709551616
def add64Spec : CSpec
  | [.int .u64 x, .int .u64 y, .int .u64 c], k => (U64 x.val ∧ U64 y.val ∧ 0 ≤ c.val ∧ c.val ≤ 1) ∧ ∀ r0 : Int, r0 = s64 x.val y.val c.val → ∀ r1 : Int, r1 = c64 x.val y.val c.val → k (.tup [.int .u64 (.sym r0), .int .u64 (.sym r1)])
  | _, _ => False
def sub64Spec : CSpec
  | [.int .u64 x, .int .u64 y, .int .u64 c], k => (U64 x.val ∧ U64 y.val ∧ 0 ≤ c.val ∧ c.val ≤ 1) ∧ ∀ r0 : Int, r0 = d64 x.val y.val c.val → ∀ r1 : Int, r1 = b64 x.val y.val c.val → k (.tup [.int .u64 (.sym r0), .int .u64 (.sym r1)])
  | _, _ => False
theorem extern_ok {P : Program} {f : FuncId} {args : List SV} {v : SV} (h : ∀ η w, (callFunc f (SV.dens η args).toArray).run P w = .ok (.value (v.den η)) w) : PureOk P f args v := fun η w =>
  ⟨.value (v.den η), by
    rw [h η w], rfl, rfl, rfl, rfl, Nat.le_refl _, fun _ _ => rfl⟩
theorem add64_ok : SpecOk Tryd.prog 42 add64Spec := by
  intro args k h
  unfold add64Spec at h
  split at h
  · rename_i x y c
    obtain ⟨⟨hx, hy, h0, h1⟩, h⟩ := h
    refine ⟨_, h _ rfl _ rfl, extern_ok fun η w => ?_⟩
    rw [run_callFunc_extern Tryd.func42 (by kernel_rfl) (by kernel_rfl) (by kernel_rfl) (e := add64Entry) (by kernel_rfl)]
    have := run_add64 (P := Tryd.prog) x.val y.val c.val hx.1 hy.1 h0 h1 w
    simp only [SV.dens, SV.den, SI.val_sym, s64, c64]
    rw [show ([Value.int .u64 x.val, Value.int .u64 y.val, Value.int .u64 c.val] : List Value).toArray = #[.int .u64 x.val, .int .u64 y.val, .int .u64 c.val] from rfl, this]
    rfl
  · exact h.elim
theorem sub64_ok : SpecOk Tryd.prog 44 sub64Spec := by
  intro args k h
  unfold sub64Spec at h
  split at h
  · rename_i x y c
    obtain ⟨⟨hx, hy, h0, h1⟩, h⟩ := h
    refine ⟨_, h _ rfl _ rfl, extern_ok fun η w => ?_⟩
    rw [run_callFunc_extern Tryd.func44 (by kernel_rfl) (by kernel_rfl) (by kernel_rfl) (e := sub64Entry) (by kernel_rfl)]
    unfold U64 at hx hy
    obtain ⟨X, hX⟩ := Int.eq_ofNat_of_zero_le hx.1
    obtain ⟨Y, hY⟩ := Int.eq_ofNat_of_zero_le hy.1
    obtain ⟨C, hC⟩ := Int.eq_ofNat_of_zero_le h0
    have := run_sub64 (P := Tryd.prog) X Y C (by omega) w
    simp only [SV.dens, SV.den, SI.val_sym, d64, b64]
    rw [hX, hY, hC]
    rw [show ([Value.int .u64 (X : Int), Value.int .u64 (Y : Int), Value.int .u64 (C : Int)] : List Value).toArray = #[.int .u64 (X : Int), .int .u64 (Y : Int), .int .u64 (C : Int)] from rfl, this]
    have e1 : (((X + 18446744073709551616 - Y - C) % 18446744073709551616 : Nat) : Int) = ((X : Int) - Y - C) % 18446744073709551616 := by omega
    have e2 : ((if X < Y + C then 1 else 0 : Nat) : Int) = if (X : Int) < Y + C then 1 else 0 := by split <;> split <;> omega
    rw [e1, e2]
    rfl
  · exact h.elim
end Go.Proofs.YtaaobpalpcdlbaaDoor.Bits
