/- Plain words on whole numbers: what wraps, shifts and bits come to, and what lies in range. Own text. -/
import Derived.IntWalk
import Derived.RowKit
import Derived.Test.YtljdjdckgkpnpaaSxB
namespace Go.Sx
open Go

theorem w_u64 (n : Int) : IntKind.u64.wrap n = n % 18446744073709551616 := by simp [IntKind.wrap, IntKind.signed, IntKind.bits]
theorem w_u32 (n : Int) : IntKind.u32.wrap n = n % 4294967296 := by simp [IntKind.wrap, IntKind.signed, IntKind.bits]
theorem w_u16 (n : Int) : IntKind.u16.wrap n = n % 65536 := by simp [IntKind.wrap, IntKind.signed, IntKind.bits]
theorem w_u8 (n : Int) : IntKind.u8.wrap n = n % 256 := by simp [IntKind.wrap, IntKind.signed, IntKind.bits]
theorem w_i64 (n : Int) : IntKind.i64.wrap n = (n + 9223372036854775808) % 18446744073709551616 - 9223372036854775808 := by
  have e : IntKind.i64.wrap n = if n % 18446744073709551616 ≥ 9223372036854775808 then n % 18446744073709551616 - 18446744073709551616 else n % 18446744073709551616 := by
    simp [IntKind.wrap, IntKind.signed, IntKind.bits]
  rw [e]; split <;> omega
theorem w_i32 (n : Int) : IntKind.i32.wrap n = (n + 2147483648) % 4294967296 - 2147483648 := by
  have e : IntKind.i32.wrap n = if n % 4294967296 ≥ 2147483648 then n % 4294967296 - 4294967296 else n % 4294967296 := by
    simp [IntKind.wrap, IntKind.signed, IntKind.bits]
  rw [e]; split <;> omega
theorem i64_id {n : Int} (h : -9223372036854775808 ≤ n) (h' : n ≤ 9223372036854775807) : IntKind.i64.wrap n = n := by rw [w_i64]; omega
theorem u64_id {n : Int} (h : 0 ≤ n) (h' : n ≤ 18446744073709551615) : IntKind.u64.wrap n = n := by rw [w_u64]; omega

theorem wf_u64 {x : Int} (h : (Lit.int .u64 x).wf = true) : 0 ≤ x ∧ x ≤ 18446744073709551615 := by
  simpa [Lit.wf, IntKind.min, IntKind.max, IntKind.signed, IntKind.bits] using h
theorem wf_u32 {x : Int} (h : (Lit.int .u32 x).wf = true) : 0 ≤ x ∧ x ≤ 4294967295 := by
  simpa [Lit.wf, IntKind.min, IntKind.max, IntKind.signed, IntKind.bits] using h
theorem wf_u16 {x : Int} (h : (Lit.int .u16 x).wf = true) : 0 ≤ x ∧ x ≤ 65535 := by
  simpa [Lit.wf, IntKind.min, IntKind.max, IntKind.signed, IntKind.bits] using h
theorem wf_u8 {x : Int} (h : (Lit.int .u8 x).wf = true) : 0 ≤ x ∧ x ≤ 255 := by
  simpa [Lit.wf, IntKind.min, IntKind.max, IntKind.signed, IntKind.bits] using h
theorem wf_i64 {x : Int} (h : (Lit.int .i64 x).wf = true) : -9223372036854775808 ≤ x ∧ x ≤ 9223372036854775807 := by
  simpa [Lit.wf, IntKind.min, IntKind.max, IntKind.signed, IntKind.bits] using h
theorem wf_i32 {x : Int} (h : (Lit.int .i32 x).wf = true) : -2147483648 ≤ x ∧ x ≤ 2147483647 := by
  simpa [Lit.wf, IntKind.min, IntKind.max, IntKind.signed, IntKind.bits] using h

def U64 (x : Int) : Prop := 0 ≤ x ∧ x ≤ 18446744073709551615
def U32 (x : Int) : Prop := 0 ≤ x ∧ x ≤ 4294967295
def U16 (x : Int) : Prop := 0 ≤ x ∧ x ≤ 65535
def U8 (x : Int) : Prop := 0 ≤ x ∧ x ≤ 255
def I64 (x : Int) : Prop := -9223372036854775808 ≤ x ∧ x ≤ 9223372036854775807
def I32 (x : Int) : Prop := -2147483648 ≤ x ∧ x ≤ 2147483647

/-- Four words as a number, and a number's words. -/
def val4 (a b c d : Int) : Int := a + b * 18446744073709551616 + c * 340282366920938463463374607431768211456 + d * 6277101735386680763835789423207666416102355444464034512896
def limb (x : Int) (i : Nat) : Int := x / 2 ^ (64 * i) % 18446744073709551616

theorem i64_u64 (x : Int) : IntKind.i64.wrap (IntKind.u64.wrap x) = IntKind.i64.wrap x := by rw [w_u64, w_i64, w_i64]; omega
theorem u64_i64 (x : Int) : IntKind.u64.wrap (IntKind.i64.wrap x) = IntKind.u64.wrap x := by rw [w_i64, w_u64, w_u64]; omega
theorem i64_sub_u64 (x y : Int) : IntKind.i64.wrap (IntKind.u64.wrap x - IntKind.u64.wrap y) = IntKind.i64.wrap (x - y) := by rw [w_u64, w_u64, w_i64, w_i64]; omega
theorem i64_lo (x : Int) : -9223372036854775808 ≤ IntKind.i64.wrap x := by rw [w_i64]; omega
theorem i64_hi (x : Int) : IntKind.i64.wrap x ≤ 9223372036854775807 := by rw [w_i64]; omega
theorem u64_lo (x : Int) : 0 ≤ IntKind.u64.wrap x := by rw [w_u64]; omega
theorem u64_hi (x : Int) : IntKind.u64.wrap x ≤ 18446744073709551615 := by rw [w_u64]; omega
theorem i64_in (x : Int) : I64 (IntKind.i64.wrap x) := ⟨i64_lo x, i64_hi x⟩
theorem u64_in (x : Int) : U64 (IntKind.u64.wrap x) := ⟨u64_lo x, u64_hi x⟩

/-! ### Ways that part -/
theorem br {X A B : Prop} [Decidable X] (h1 : X → A) (h2 : ¬ X → B) : ∀ v : Bool, v = decide X → (v = true → A) ∧ (v = false → B) := by
  rintro v rfl; exact ⟨fun h => h1 (by simpa using h), fun h => h2 (by simpa using h)⟩
theorem rb {X A B : Prop} [Decidable X] (h2 : ¬ X → B) (h1 : X → A) : ∀ v : Bool, v = decide X → (v = false → B) ∧ (v = true → A) := by
  rintro v rfl; exact ⟨fun h => h2 (by simpa using h), fun h => h1 (by simpa using h)⟩
theorem brE {a b : Int} {A B : Prop} (h1 : a = b → A) (h2 : a ≠ b → B) : ∀ v : Bool, v = (a == b) → (v = true → A) ∧ (v = false → B) := by
  rintro v rfl; exact ⟨fun h => h1 (by simpa using h), fun h => h2 (by simpa using h)⟩
theorem rbE {a b : Int} {A B : Prop} (h2 : a ≠ b → B) (h1 : a = b → A) : ∀ v : Bool, v = (a == b) → (v = false → B) ∧ (v = true → A) := by
  rintro v rfl; exact ⟨fun h => h2 (by simpa using h), fun h => h1 (by simpa using h)⟩
theorem brN {a b : Int} {A B : Prop} (h1 : a ≠ b → A) (h2 : a = b → B) : ∀ v : Bool, v = (a != b) → (v = true → A) ∧ (v = false → B) := by
  rintro v rfl; exact ⟨fun h => h1 (by simpa using h), fun h => h2 (by simpa using h)⟩
theorem rbN {a b : Int} {A B : Prop} (h2 : a = b → B) (h1 : a ≠ b → A) : ∀ v : Bool, v = (a != b) → (v = false → B) ∧ (v = true → A) := by
  rintro v rfl; exact ⟨fun h => h2 (by simpa using h), fun h => h1 (by simpa using h)⟩

/-! ### Quotients towards nought -/
theorem tdiv_nonneg {a : Int} (h : 0 ≤ a) (b : Int) : a.tdiv b = a / b := Int.tdiv_eq_ediv_of_nonneg h
theorem tmod_nonneg {a : Int} (h : 0 ≤ a) (b : Int) : a.tmod b = a % b := Int.tmod_eq_emod_of_nonneg h

/-! ### Shifts -/
theorem shl_eq (k : IntKind) (x : Int) (n : Nat) (h : n ≤ k.bits) : shlI k x (n : Int) = k.wrap (x * 2 ^ n) := by
  simp [shlI, Nat.min_eq_left h]
theorem shr_eq (k : IntKind) (x : Int) (n : Nat) (h : n ≤ k.bits) : shrI k x (n : Int) = x / 2 ^ n := by
  simp only [shrI, Int.toNat_natCast, Nat.min_eq_left h]
  rw [Int.fdiv_eq_ediv_of_nonneg]
  exact Int.le_of_lt (Int.pow_pos (by omega))

/-! ### Bits -/
/-- The bits of a number, as a natural number. -/
def natOf (k : IntKind) (x : Int) : Nat := (x % (2 ^ k.bits : Nat)).toNat
theorem natOf_id {k : IntKind} {x : Int} (h : 0 ≤ x) (h' : x < (2 ^ k.bits : Nat)) : natOf k x = x.toNat := by
  unfold natOf; rw [Int.emod_eq_of_lt h h']
theorem bit_and (k : IntKind) (x y : Int) : bitI .and k x y = k.wrap ((natOf k x &&& natOf k y : Nat) : Int) := by
  simp only [bitI, BitVec.toNat_and, BitVec.toNat_ofInt, natOf]
theorem bit_or (k : IntKind) (x y : Int) : bitI .or k x y = k.wrap ((natOf k x ||| natOf k y : Nat) : Int) := by
  simp only [bitI, BitVec.toNat_or, BitVec.toNat_ofInt, natOf]
theorem bit_xor (k : IntKind) (x y : Int) : bitI .xor k x y = k.wrap ((natOf k x ^^^ natOf k y : Nat) : Int) := by
  simp only [bitI, BitVec.toNat_xor, BitVec.toNat_ofInt, natOf]

theorem and_mask {x n : Nat} : x &&& (2 ^ n - 1) = x % 2 ^ n := Nat.and_two_pow_sub_one_eq_mod x n
theorem and1_i64 (x : Int) : bitI .and .i64 x 1 = x % 2 := by
  rw [bit_and]
  have e1 : natOf .i64 1 = 1 := by decide +kernel
  rw [e1, Nat.and_one_is_mod, w_i64]
  unfold natOf
  simp only [IntKind.bits]
  omega
/-- The upper and the lower part. -/
theorem or_parts_u64 {a b : Int} {n : Nat} (ha : 0 ≤ a) (hb : 0 ≤ b) (hb' : b < 2 ^ n) (h : a * 2 ^ n + b < 18446744073709551616) (h0 : a * 2 ^ n < 18446744073709551616) (h1 : b < 18446744073709551616) :
    bitI .or .u64 (a * 2 ^ n) b = a * 2 ^ n + b := by
  rw [bit_or, natOf_id (by exact Int.mul_nonneg ha (Int.le_of_lt (Int.pow_pos (by omega)))) (by simpa [IntKind.bits] using h0), natOf_id hb (by simpa [IntKind.bits] using h1)]
  obtain ⟨a, rfl⟩ := Int.eq_ofNat_of_zero_le ha
  obtain ⟨b, rfl⟩ := Int.eq_ofNat_of_zero_le hb
  have e : ((a : Int) * 2 ^ n).toNat = 2 ^ n * a := by
    have : ((a : Int) * 2 ^ n) = ((2 ^ n * a : Nat) : Int) := by push_cast; rw [Int.mul_comm]
    rw [this, Int.toNat_natCast]
  have hb2 : b < 2 ^ n := by exact_mod_cast hb'
  rw [e, Int.toNat_natCast, ← Nat.two_pow_add_eq_or_of_lt hb2 a, u64_id (by omega) ?_]
  · push_cast; rw [Int.mul_comm]
  · push_cast; rw [Int.mul_comm]; omega

end Go.Sx
