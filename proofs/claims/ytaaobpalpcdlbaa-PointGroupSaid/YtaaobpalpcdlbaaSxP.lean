import Derived.IntWalk
import Derived.RowKit
import Derived.Test.YtaaobpalpcdlbaaSxB
namespace Go.Sx
open Go

theorem w_u64 (n : Int) : IntKind.u64.wrap n = n % 18446744073709551616 := by simp [IntKind.wrap, IntKind.signed, IntKind.bits]
theorem w_u32 (n : Int) : IntKind.u32.wrap n = n % 4294967296 := by simp [IntKind.wrap, IntKind.signed, IntKind.bits]
theorem w_u16 (n : Int) : IntKind.u16.wrap n = n % 65536 := by simp [IntKind.wrap, IntKind.signed, IntKind.bits]
theorem w_u8 (n : Int) : IntKind.u8.wrap n = n % 256 := by simp [IntKind.wrap, IntKind.signed, IntKind.bits]
theorem w_i64 (n : Int) : IntKind.i64.wrap n = (n + 9223372036854775808) % 18446744073709551616 - 9223372036854775808 := by
  have e : IntKind.i64.wrap n = if n % 18446744073709551616 ≥ 9223372036854775808 then n % 18446744073709551616 - 18446744073709551616 else n % 18446744073709551616 := by
    simp [IntKind.wrap, IntKind.signed, IntKind.bits]
  rw [e]; split <;> omega
theorem w_i32 (n : Int) : IntKind.i32.wrap n = (n + 2147483648) % 4294967296 - 2147483648 := by
  have e : IntKind.i32.wrap n = if n % 4294967296 ≥ 2147483648 then n % 4294967296 - 4294967296 else n % 4294967296 := by
    simp [IntKind.wrap, IntKind.signed, IntKind.bits]
  rw [e]; split <;> omega
theorem i64_id {n : Int} (h : -9223372036854775808 ≤ n) (h' : n ≤ 9223372036854775807) : IntKind.i64.wrap n = n := by rw [w_i64]; omega
theorem u64_id {n : Int} (h : 0 ≤ n) (h' : n ≤ 18446744073709551615) : IntKind.u64.wrap n = n := by rw [w_u64]; omega

theorem wf_u64 {x : Int} (h : (Lit.int .u64 x).wf = true) : 0 ≤ x ∧ x ≤ 18446744073709551615 := by
  simpa [Lit.wf, IntKind.min, IntKind.max, IntKind.signed, IntKind.bits] using h
theorem wf_u32 {x : Int} (h : (Lit.int .u32 x).wf = true) : 0 ≤ x ∧ x ≤ 4294967295 := by
  simpa [Lit.wf, IntKind.min, IntKind.max, IntKind.signed, IntKind.bits] using h
theorem wf_u16 {x : Int} (h : (Lit.int .u16 x).wf = true) : 0 ≤ x ∧ x ≤ 65535 := by
  simpa [Lit.wf, IntKind.min, IntKind.max, IntKind.signed, IntKind.bits] using h
theorem wf_u8 {x : Int} (h : (Lit.int .u8 x).wf = true) : 0 ≤ x ∧ x ≤ 255 := by
  simpa [Lit.wf, IntKind.min, IntKind.max, IntKind.signed, IntKind.bits] using h
theorem wf_i64 {x : Int} (h : (Lit.int .i64 x).wf = true) : -9223372036854775808 ≤ x ∧ x ≤ 9223372036854775807 := by
  simpa [Lit.wf, IntKind.min, IntKind.max, IntKind.signed, IntKind.bits] using h
theorem wf_i32 {x : Int} (h : (Lit.int .i32 x).wf = true) : -2147483648 ≤ x ∧ x ≤ 2147483647 := by
  simpa [Lit.wf, IntKind.min, IntKind.max, IntKind.signed, IntKind.bits] using h

abbrev U64 (x : Int) : Prop := 0 ≤ x ∧ x ≤ 18446744073709551615
abbrev U32 (x : Int) : Prop := 0 ≤ x ∧ x ≤ 4294967295
abbrev U16 (x : Int) : Prop := 0 ≤ x ∧ x ≤ 65535
abbrev U8 (x : Int) : Prop := 0 ≤ x ∧ x ≤ 255
abbrev I64 (x : Int) : Prop := -9223372036854775808 ≤ x ∧ x ≤ 9223372036854775807
abbrev I32 (x : Int) : Prop := -2147483648 ≤ x ∧ x ≤ 2147483647

def val4 (a b c d : Int) : Int := a + b * 18446744073709551616 + c * 340282366920938463463374607431768211456 + d * 6277101735386680763835789423207666416102355444464034512896
def limb (x : Int) (i : Nat) : Int := x / 2 ^ (64 * i) % 18446744073709551616

theorem i64_u64 (x : Int) : IntKind.i64.wrap (IntKind.u64.wrap x) = IntKind.i64.wrap x := by rw [w_u64, w_i64, w_i64]; omega
theorem u64_i64 (x : Int) : IntKind.u64.wrap (IntKind.i64.wrap x) = IntKind.u64.wrap x := by rw [w_i64, w_u64, w_u64]; omega
theorem i64_sub_u64 (x y : Int) : IntKind.i64.wrap (IntKind.u64.wrap x - IntKind.u64.wrap y) = IntKind.i64.wrap (x - y) := by rw [w_u64, w_u64, w_i64, w_i64]; omega
theorem i64_lo (x : Int) : -9223372036854775808 ≤ IntKind.i64.wrap x := by rw [w_i64]; omega
theorem i64_hi (x : Int) : IntKind.i64.wrap x ≤ 9223372036854775807 := by rw [w_i64]; omega
theorem u64_lo (x : Int) : 0 ≤ IntKind.u64.wrap x := by rw [w_u64]; omega
theorem u64_hi (x : Int) : IntKind.u64.wrap x ≤ 18446744073709551615 := by rw [w_u64]; omega
theorem i64_in (x : Int) : I64 (IntKind.i64.wrap x) := ⟨i64_lo x, i64_hi x⟩
theorem u64_in (x : Int) : U64 (IntKind.u64.wrap x) := ⟨u64_lo x, u64_hi x⟩

theorem tf {v : Bool} {A B : Prop} (a : v = true → A) (b : v = false → B) : (v = true → A) ∧ (v = false → B) := ⟨a, b⟩
theorem ft {v : Bool} {A B : Prop} (b : v = false → B) (a : v = true → A) : (v = false → B) ∧ (v = true → A) := ⟨b, a⟩
theorem br {X A B : Prop} [Decidable X] (h1 : X → A) (h2 : ¬ X → B) : ∀ v : Bool, v = decide X → (v = true → A) ∧ (v = false → B) := by
  rintro v rfl; exact ⟨fun h => h1 (by simpa using h), fun h => h2 (by simpa using h)⟩
theorem rb {X A B : Prop} [Decidable X] (h2 : ¬ X → B) (h1 : X → A) : ∀ v : Bool, v = decide X → (v = false → B) ∧ (v = true → A) := by
  rintro v rfl; exact ⟨fun h => h2 (by simpa using h), fun h => h1 (by simpa using h)⟩
theorem brE {a b : Int} {A B : Prop} (h1 : a = b → A) (h2 : a ≠ b → B) : ∀ v : Bool, v = (a == b) → (v = true → A) ∧ (v = false → B) := by
  rintro v rfl; exact ⟨fun h => h1 (by simpa using h), fun h => h2 (by simpa using h)⟩
theorem rbE {a b : Int} {A B : Prop} (h2 : a ≠ b → B) (h1 : a = b → A) : ∀ v : Bool, v = (a == b) → (v = false → B) ∧ (v = true → A) := by
  rintro v rfl; exact ⟨fun h => h2 (by simpa using h), fun h => h1 (by simpa using h)⟩
theorem brN {a b : Int} {A B : Prop} (h1 : a ≠ b → A) (h2 : a = b → B) : ∀ v : Bool, v = (a != b) → (v = true → A) ∧ (v = false → B) := by
  rintro v rfl; exact ⟨fun h => h1 (by simpa using h), fun h => h2 (by simpa using h)⟩
theorem rbN {a b : Int} {A B : Prop} (h2 : a = b → B) (h1 : a ≠ b → A) : ∀ v : Bool, v = (a != b) → (v = false → B) ∧ (v = true → A) := by
  rintro v rfl; exact ⟨fun h => h2 (by simpa using h), fun h => h1 (by simpa using h)⟩

theorem brn {X A B : Prop} [Decidable X] (h1 : ¬ X → A) (h2 : X → B) : ∀ v : Bool, v = decide X → ∀ u : Bool, u = (!v) → (u = true → A) ∧ (u = false → B) := by
  rintro v rfl u rfl; exact ⟨fun h => h1 (by simpa using h), fun h => h2 (by simpa using h)⟩
theorem rbn {X A B : Prop} [Decidable X] (h2 : X → B) (h1 : ¬ X → A) : ∀ v : Bool, v = decide X → ∀ u : Bool, u = (!v) → (u = false → B) ∧ (u = true → A) := by
  rintro v rfl u rfl; exact ⟨fun h => h2 (by simpa using h), fun h => h1 (by simpa using h)⟩
theorem brb {b : Bool} {A B : Prop} (h1 : b = true → A) (h2 : b = false → B) : ∀ v : Bool, v = b → (v = true → A) ∧ (v = false → B) := by
  rintro v rfl; exact ⟨h1, h2⟩
theorem rbb {b : Bool} {A B : Prop} (h2 : b = false → B) (h1 : b = true → A) : ∀ v : Bool, v = b → (v = false → B) ∧ (v = true → A) := by
  rintro v rfl; exact ⟨h2, h1⟩
theorem brbn {b : Bool} {A B : Prop} (h1 : b = false → A) (h2 : b = true → B) : ∀ v : Bool, v = b → ∀ u : Bool, u = (!v) → (u = true → A) ∧ (u = false → B) := by
  rintro v rfl u rfl; exact ⟨fun h => h1 (by simpa using h), fun h => h2 (by simpa using h)⟩
theorem rbbn {b : Bool} {A B : Prop} (h2 : b = true → B) (h1 : b = false → A) : ∀ v : Bool, v = b → ∀ u : Bool, u = (!v) → (u = false → B) ∧ (u = true → A) := by
  rintro v rfl u rfl; exact ⟨fun h => h2 (by simpa using h), fun h => h1 (by simpa using h)⟩

theorem tdiv_nonneg {a : Int} (h : 0 ≤ a) (b : Int) : a.tdiv b = a / b := Int.tdiv_eq_ediv_of_nonneg h
theorem tmod_nonneg {a : Int} (h : 0 ≤ a) (b : Int) : a.tmod b = a % b := Int.tmod_eq_emod_of_nonneg h

theorem shl_eq (k : IntKind) (x : Int) (n : Nat) (h : n ≤ k.bits) : shlI k x (n : Int) = k.wrap (x * 2 ^ n) := by
  simp [shlI, Nat.min_eq_left h]
theorem shr_eq (k : IntKind) (x : Int) (n : Nat) (h : n ≤ k.bits) : shrI k x (n : Int) = x / 2 ^ n := by
  simp only [shrI, Int.toNat_natCast, Nat.min_eq_left h]
  rw [Int.fdiv_eq_ediv_of_nonneg]
  exact Int.le_of_lt (Int.pow_pos (by omega))

def natOf (k : IntKind) (x : Int) : Nat := (x % (2 ^ k.bits : Nat)).toNat
theorem natOf_id {k : IntKind} {x : Int} (h : 0 ≤ x) (h' : x < (2 ^ k.bits : Nat)) : natOf k x = x.toNat := by
  unfold natOf; rw [Int.emod_eq_of_lt h h']
theorem bit_and (k : IntKind) (x y : Int) : bitI .and k x y = k.wrap ((natOf k x &&& natOf k y : Nat) : Int) := by
  simp only [bitI, BitVec.toNat_and, BitVec.toNat_ofInt, natOf]
theorem bit_or (k : IntKind) (x y : Int) : bitI .or k x y = k.wrap ((natOf k x ||| natOf k y : Nat) : Int) := by
  simp only [bitI, BitVec.toNat_or, BitVec.toNat_ofInt, natOf]
theorem bit_xor (k : IntKind) (x y : Int) : bitI .xor k x y = k.wrap ((natOf k x ^^^ natOf k y : Nat) : Int) := by
  simp only [bitI, BitVec.toNat_xor, BitVec.toNat_ofInt, natOf]

theorem and_mask {x n : Nat} : x &&& (2 ^ n - 1) = x % 2 ^ n := Nat.and_two_pow_sub_one_eq_mod x n
theorem and1_i64 (x : Int) : bitI .and .i64 x 1 = x % 2 := by
  rw [bit_and]
  have e1 : natOf .i64 1 = 1 := by decide +kernel
  rw [e1, Nat.and_one_is_mod, w_i64]
  unfold natOf
  simp only [IntKind.bits]
  omega
theorem or_parts_u64 {a b : Int} {n : Nat} (ha : 0 ≤ a) (hb : 0 ≤ b) (hb' : b < 2 ^ n) (h : a * 2 ^ n + b < 18446744073709551616) (h0 : a * 2 ^ n < 18446744073709551616) (h1 : b < 18446744073709551616) :
    bitI .or .u64 (a * 2 ^ n) b = a * 2 ^ n + b := by
  rw [bit_or, natOf_id (by exact Int.mul_nonneg ha (Int.le_of_lt (Int.pow_pos (by omega)))) (by simpa [IntKind.bits] using h0), natOf_id hb (by simpa [IntKind.bits] using h1)]
  obtain ⟨a, rfl⟩ := Int.eq_ofNat_of_zero_le ha
  obtain ⟨b, rfl⟩ := Int.eq_ofNat_of_zero_le hb
  have e : ((a : Int) * 2 ^ n).toNat = 2 ^ n * a := by
    have : ((a : Int) * 2 ^ n) = ((2 ^ n * a : Nat) : Int) := by push_cast; rw [Int.mul_comm]
    rw [this, Int.toNat_natCast]
  have hb2 : b < 2 ^ n := by exact_mod_cast hb'
  rw [e, Int.toNat_natCast, ← Nat.two_pow_add_eq_or_of_lt hb2 a, u64_id (by omega) ?_]
  · push_cast; rw [Int.mul_comm]
  · push_cast; rw [Int.mul_comm]; omega

theorem shrN (k : IntKind) (x : Int) (n : Nat) (m p : Int) (hm : m = n := by rfl) (hp : p = 2 ^ n := by rfl) (hn : n ≤ k.bits := by decide) : shrI k x m = x / p := by
  subst hm hp; exact shr_eq k x n hn
theorem shlN (k : IntKind) (x : Int) (n : Nat) (m p : Int) (hm : m = n := by rfl) (hp : p = 2 ^ n := by rfl) (hn : n ≤ k.bits := by decide) : shlI k x m = k.wrap (x * p) := by
  subst hm hp; exact shl_eq k x n hn
theorem and_low_u64 {x : Int} (hx : U64 x) (n : Nat) (m p : Int) (hm : m = 2 ^ n - 1 := by rfl) (hp : p = 2 ^ n := by rfl) (hn : n ≤ 64 := by decide) : bitI .and .u64 x m = x % p := by
  subst hm hp
  have h2 : (0 : Int) < 2 ^ n := Int.pow_pos (by omega)
  have h3 : (2 : Int) ^ n ≤ 2 ^ 64 := by
    have : (2 : Nat) ^ n ≤ 2 ^ 64 := Nat.pow_le_pow_right (by omega) hn
    exact_mod_cast this
  rw [show (2 : Int) ^ 64 = 18446744073709551616 from rfl] at h3
  unfold U64 at hx
  rw [bit_and, natOf_id (k := .u64) hx.1 (by simp only [IntKind.bits]; omega), natOf_id (k := .u64) (x := 2 ^ n - 1) (by omega) (by simp only [IntKind.bits]; omega)]
  have e : ((2 : Int) ^ n - 1).toNat = 2 ^ n - 1 := by
    have : ((2 ^ n - 1 : Nat) : Int) = 2 ^ n - 1 := by
      have := Nat.one_le_two_pow (n := n)
      push_cast [Int.ofNat_sub this]
      rfl
    rw [← this, Int.toNat_natCast]
  rw [e, Nat.and_two_pow_sub_one_eq_mod]
  obtain ⟨x, rfl⟩ := Int.eq_ofNat_of_zero_le hx.1
  rw [Int.toNat_natCast]
  have l : ((x % 2 ^ n : Nat) : Int) = (x : Int) % 2 ^ n := by push_cast; rfl
  rw [l, u64_id]
  · exact Int.emod_nonneg _ (by omega)
  · have := Int.emod_lt_of_pos (x : Int) h2; omega
theorem mul_in {a b m n : Int} (ha : 0 ≤ a) (ha' : a ≤ m) (hb : 0 ≤ b) (hb' : b ≤ n) : 0 ≤ a * b ∧ a * b ≤ m * n :=
  ⟨Int.mul_nonneg ha hb, Int.mul_le_mul ha' hb' hb (by omega)⟩

def lenF (x : Int) : Int := if x ≤ 0 then 0 else ((Nat.log2 x.toNat + 1 : Nat) : Int)
def tab8 : ByteArray := bytesL [0, 1, 2, 2, 3, 3, 3, 3, 4, 4, 4, 4, 4, 4, 4, 4, 5, 5, 5, 5, 5, 5, 5, 5, 5, 5, 5, 5, 5, 5, 5, 5, 6, 6, 6, 6, 6, 6, 6, 6, 6, 6, 6, 6, 6, 6, 6, 6, 6, 6, 6, 6, 6, 6, 6, 6, 6, 6, 6, 6, 6, 6, 6, 6, 7, 7, 7, 7, 7, 7, 7, 7, 7, 7, 7, 7, 7, 7, 7, 7, 7, 7, 7, 7, 7, 7, 7, 7, 7, 7, 7, 7, 7, 7, 7, 7, 7, 7, 7, 7, 7, 7, 7, 7, 7, 7, 7, 7, 7, 7, 7, 7, 7, 7, 7, 7, 7, 7, 7, 7, 7, 7, 7, 7, 7, 7, 7, 7, 8, 8, 8, 8, 8, 8, 8, 8, 8, 8, 8, 8, 8, 8, 8, 8, 8, 8, 8, 8, 8, 8, 8, 8, 8, 8, 8, 8, 8, 8, 8, 8, 8, 8, 8, 8, 8, 8, 8, 8, 8, 8, 8, 8, 8, 8, 8, 8, 8, 8, 8, 8, 8, 8, 8, 8, 8, 8, 8, 8, 8, 8, 8, 8, 8, 8, 8, 8, 8, 8, 8, 8, 8, 8, 8, 8, 8, 8, 8, 8, 8, 8, 8, 8, 8, 8, 8, 8, 8, 8, 8, 8, 8, 8, 8, 8, 8, 8, 8, 8, 8, 8, 8, 8, 8, 8, 8, 8, 8, 8, 8, 8, 8, 8, 8, 8, 8, 8, 8, 8, 8, 8, 8, 8, 8, 8, 8, 8]
theorem tab8_all : (List.range 256).all (fun i => byteAt tab8 (i : Int) == lenF (i : Int)) = true := by decide +kernel
theorem tab8_len {x : Int} (h0 : 0 ≤ x) (h1 : x < 256) : byteAt tab8 x = lenF x := by
  obtain ⟨n, rfl⟩ := Int.eq_ofNat_of_zero_le h0
  have := List.all_eq_true.1 tab8_all n (List.mem_range.2 (by omega))
  simpa using this
theorem lenF_div {x : Int} (n : Nat) (p : Int) (hp : p = 2 ^ n) (h : p ≤ x) : lenF x = n + lenF (x / p) := by
  subst hp
  have p0 : (0 : Int) < 2 ^ n := Int.pow_pos (by omega)
  obtain ⟨m, rfl⟩ := Int.eq_ofNat_of_zero_le (show 0 ≤ x by omega)
  have e : (m : Int) / 2 ^ n = ((m / 2 ^ n : Nat) : Int) := by push_cast; rfl
  have hm : 2 ^ n ≤ m := by exact_mod_cast h
  have hq : 1 ≤ m / 2 ^ n := (Nat.one_le_div_iff (Nat.two_pow_pos n)).2 hm
  unfold lenF
  rw [e, if_neg (by omega), if_neg (by omega), Int.toNat_natCast, Int.toNat_natCast]
  have : Nat.log2 m = n + Nat.log2 (m / 2 ^ n) := by
    rw [Nat.log2_eq_iff (by omega)]
    obtain ⟨a, b⟩ := (Nat.log2_eq_iff (n := m / 2 ^ n) (k := Nat.log2 (m / 2 ^ n)) (by omega)).1 rfl
    generalize Nat.log2 (m / 2 ^ n) = k at *
    rw [Nat.le_div_iff_mul_le (Nat.two_pow_pos n)] at a
    rw [Nat.div_lt_iff_lt_mul (Nat.two_pow_pos n)] at b
    refine ⟨by rw [Nat.add_comm, Nat.pow_add]; exact a, ?_⟩
    rw [Nat.add_assoc, Nat.add_comm, Nat.pow_add]; exact b
  rw [this]
  omega
theorem lenF_bound {x : Int} (h0 : 0 ≤ x) (n : Nat) (h : x < 2 ^ n) : 0 ≤ lenF x ∧ lenF x ≤ n := by
  unfold lenF
  split
  · omega
  · obtain ⟨m, rfl⟩ := Int.eq_ofNat_of_zero_le h0
    rw [Int.toNat_natCast]
    have : Nat.log2 m < n := (Nat.log2_lt (by omega)).2 (by exact_mod_cast h)
    omega
theorem lenF_spec {x : Int} (h : 0 < x) : ∃ k : Nat, lenF x = k + 1 ∧ 2 ^ k ≤ x ∧ x < 2 ^ (k + 1) := by
  obtain ⟨m, rfl⟩ := Int.eq_ofNat_of_zero_le (show 0 ≤ x by omega)
  obtain ⟨a, b⟩ := (Nat.log2_eq_iff (n := m) (k := Nat.log2 m) (by omega)).1 rfl
  refine ⟨Nat.log2 m, ?_, by exact_mod_cast a, by exact_mod_cast b⟩
  unfold lenF
  rw [if_neg (by omega), Int.toNat_natCast]
  omega
theorem lenTail {x y c : Int} (hy : 0 ≤ y) (hy' : y < 256) (hc : 0 ≤ c ∧ c ≤ 64) (e : lenF x = c + lenF y) :
    ∀ v7, v7 = IntKind.u8.wrap y → (0 ≤ v7 ∧ v7 < 256) ∧ ∀ v8, v8 = byteAt tab8 v7 → ∀ v9, v9 = IntKind.i64.wrap v8 → ∀ v10, v10 = IntKind.i64.wrap (c + v9) → IntKind.i64 = IntKind.i64 ∧ v10 = lenF x := by
  intro v7 h7
  have e7 : v7 = y := by rw [h7, w_u8]; omega
  subst e7
  refine ⟨⟨hy, hy'⟩, fun v8 h8 v9 h9 v10 h10 => ⟨rfl, ?_⟩⟩
  rw [tab8_len hy hy'] at h8
  have b := lenF_bound hy 8 (by omega)
  rw [h8, i64_id (by omega) (by omega)] at h9
  rw [h9, i64_id (by omega) (by omega)] at h10
  rw [h10, e]

end Go.Sx
