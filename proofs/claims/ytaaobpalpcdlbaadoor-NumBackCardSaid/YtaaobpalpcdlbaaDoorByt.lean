import Derived.Test.YtaaobpalpcdlbaaDoorSxR
import Derived.Test.YtaaobpalpcdlbaaDoorProg
import Derived.Test.YtaaobpalpcdlbaaDoorStr1
import Derived.KernelRfl
namespace Go.Proofs.YtaaobpalpcdlbaaDoor.Bits
open Go Go.Sx Go.RowKit
set_option linter.unusedVariables false
set_option maxRecDepth 100000
def bytSpec : List (FuncId × CSpec) := [(33, littleSpec), (51, turnedSpec), (27, fromLittleSpec), (34, rLittleSpec), (52, rTurnedSpec), (28, rFromLittleSpec)]
theorem byt_ok : SpecsOk Tryd.prog bytSpec := ⟨little_ok, turned_ok, fromLittle_ok, rLittle_ok, rTurned_ok, rFromLittle_ok, trivial⟩
def bigF (n : Int) : ByteArray := revF (littleF n)
def beF (s : ByteArray) : Int := leF (revF s)
theorem byteAt_mk {l : List Int} {i : Nat} {x : Int} (h : l[i]? = some x) (h0 : 0 ≤ x) (h1 : x < 256) : byteAt (mkBytes l) (i : Int) = x := by
  unfold byteAt mkBytes
  simp only [List.getElem?_map, Int.toNat_natCast, h, Option.map_some, Option.getD_some]
  have : (UInt8.ofNat x.toNat).toNat = x.toNat % 256 := rfl
  rw [this]; omega
theorem byteAt_little {n k : Int} (i : Nat) (hk : k = i) (hi : i < 32) : byteAt (littleF n) k = n / 256 ^ i % 256 := by
  subst hk
  refine byteAt_mk ?_ (by omega) (by omega)
  rw [List.getElem?_map, List.getElem?_range hi]; rfl
theorem little_size (n : Int) : ((littleF n).size : Int) = 32 := by
  unfold littleF mkBytes
  simp [ByteArray.size]
theorem w8_little (n : Int) (j : Nat) (hj : j < 4) {k p : Int} (hk : k = ((8 * j : Nat) : Int)) (hp : p = 256 ^ (8 * j)) : w8 (littleF n) k = n / p % 18446744073709551616 := by
  have c : ∀ q : Nat, n / 256 ^ (8 * j + q) = n / p / 256 ^ q := fun q => by
    rw [hp, Int.ediv_ediv_of_nonneg (Int.le_of_lt (Int.pow_pos (by omega))), ← Int.pow_add]
  have b : ∀ (q : Nat) (t : Int), t = q → q < 8 → byteAt (littleF n) (k + t) = n / p / 256 ^ q % 256 := fun q t ht hq => by
    rw [byteAt_little (8 * j + q) (by rw [hk, ht]; push_cast; rfl) (by omega), c]
  have b0 : byteAt (littleF n) k = n / p / 256 ^ 0 % 256 := by have := b 0 0 rfl (by omega); rwa [Int.add_zero] at this
  unfold w8
  rw [b0, b 1 1 rfl (by omega), b 2 2 rfl (by omega), b 3 3 rfl (by omega), b 4 4 rfl (by omega), b 5 5 rfl (by omega), b 6 6 rfl (by omega), b 7 7 rfl (by omega)]
  generalize n / p = m
  omega
theorem leF_little {n : Int} (h0 : 0 ≤ n) (h1 : n < 115792089237316195423570985008687907853269984665640564039457584007913129639936) : leF (littleF n) = n := by
  unfold leF
  rw [if_pos (little_size n), w8_little n 0 (by omega) (k := 0) (p := 1) rfl rfl, w8_little n 1 (by omega) (k := 8) (p := 18446744073709551616) rfl (by decide), w8_little n 2 (by omega) (k := 16) (p := 340282366920938463463374607431768211456) rfl (by decide), w8_little n 3 (by omega) (k := 24) (p := 6277101735386680763835789423207666416102355444464034512896) rfl (by decide)]
  unfold val4
  omega
theorem ba_eq (a b : ByteArray) : (a == b) = decide (a = b) := by
  cases a with
  | mk a => cases b with
    | mk b =>
      show (a == b) = _
      by_cases h : a = b
      · subst h; simp
      · rw [decide_eq_false (fun z => h (by injection z))]; simpa using h
theorem brBA {a b : ByteArray} {A B : Prop} (h1 : a = b → A) (h2 : a ≠ b → B) (v : Bool) (h : v = (a == b)) : (v = true → A) ∧ (v = false → B) := by
  rw [ba_eq] at h
  exact br h1 h2 v h
theorem rbBA {a b : ByteArray} {A B : Prop} (h2 : a ≠ b → B) (h1 : a = b → A) (v : Bool) (h : v = (a == b)) : (v = false → B) ∧ (v = true → A) := by
  rw [ba_eq] at h
  exact rb h2 h1 v h
theorem bA (s : ByteArray) (i : Nat) : byteAt s (i : Int) = ((s.data[i]?).getD 0).toNat := by
  unfold byteAt; rw [Int.toNat_natCast, Array.getElem?_toList]
theorem byteAt_l {a b : ByteArray} {i : Nat} (h : i < a.size) : byteAt (a ++ b) (i : Int) = byteAt a (i : Int) := by
  rw [bA, bA, ByteArray.data_append, Array.getElem?_append_left h]
theorem byteAt_r {a b : ByteArray} {i : Nat} (h : a.size ≤ i) : byteAt (a ++ b) (i : Int) = byteAt b ((i - a.size : Nat) : Int) := by
  rw [bA, bA, ByteArray.data_append, Array.getElem?_append_right h]; rfl
theorem byteAt_e {a : ByteArray} {lo hi i : Nat} (h : lo + i < hi) (h2 : hi ≤ a.size) : byteAt (a.extract lo hi) (i : Int) = byteAt a ((lo + i : Nat) : Int) := by
  rw [bA, bA, ByteArray.data_extract, Array.getElem?_extract]
  rw [if_pos]
  have : a.data.size = a.size := rfl
  omega
theorem ba_ext {s t : ByteArray} (h : s.size = t.size) (k : ∀ i : Nat, i < s.size → byteAt s (i : Int) = byteAt t (i : Int)) : s = t := by
  cases s with
  | mk a => cases t with
    | mk b =>
      have h : a.size = b.size := h
      congr 1
      apply Array.ext h
      intro i h1 h2
      have := k i h1
      rw [bA, bA] at this
      simp only [Array.getElem?_eq_getElem h1, Array.getElem?_eq_getElem h2, Option.getD_some] at this
      exact UInt8.toNat_inj.1 (by exact_mod_cast this)
theorem fbytes_at {f : Int → Int} {n : Int} {i : Nat} (hi : (i : Int) < n) (h0 : 0 ≤ f i) (h1 : f i < 256) : byteAt (fbytes f n) (i : Int) = f i := by
  rw [bA]
  unfold fbytes
  simp only [List.getElem?_toArray, List.getElem?_map, List.getElem?_range (show i < n.toNat by omega), Option.map_some, Option.getD_some]
  have : (UInt8.ofNat (f i).toNat).toNat = (f i).toNat % 256 := rfl
  rw [this]; omega
theorem revF_at (s : ByteArray) {i : Nat} (h : i < s.size) : byteAt (revF s) (i : Int) = byteAt s ((s.size : Int) - 1 - i) := by
  unfold revF
  have b := byteAt_in s ((s.size : Int) - 1 - i)
  exact fbytes_at (f := fun i => byteAt s ((s.size : Int) - 1 - i)) (by omega) b.1 (by omega)
theorem revF_sz (s : ByteArray) : (revF s).size = s.size := by have := revF_size s; omega
theorem revF_revF (s : ByteArray) : revF (revF s) = s := by
  refine ba_ext (by rw [revF_sz, revF_sz]) fun i hi => ?_
  rw [revF_sz, revF_sz] at hi
  rw [revF_at _ (by rw [revF_sz]; exact hi), revF_sz, show (s.size : Int) - 1 - i = ((s.size - 1 - i : Nat) : Int) by omega, revF_at _ (by omega)]
  congr 1; omega
def bN (s : ByteArray) : Nat → Int
  | 0 => 0
  | n + 1 => bN s n + byteAt s (n : Int) * 256 ^ n
theorem bN_in (s : ByteArray) : ∀ n, 0 ≤ bN s n ∧ bN s n < 256 ^ n
  | 0 => by simp [bN]
  | n + 1 => by
    have ih := bN_in s n
    have b := byteAt_in s n
    have p : (0 : Int) < 256 ^ n := Int.pow_pos (by decide)
    simp only [bN]
    rw [Int.pow_succ]
    have e := Int.mul_nonneg b.1 (Int.le_of_lt p)
    have g := Int.mul_le_mul_of_nonneg_right b.2 (Int.le_of_lt p)
    omega
theorem bN_at (s : ByteArray) (i : Nat) : ∀ n, i < n → bN s n / 256 ^ i % 256 = byteAt s (i : Int)
  | 0, h => by omega
  | n + 1, h => by
    have p : (0 : Int) < 256 ^ i := Int.pow_pos (by decide)
    simp only [bN]
    by_cases c : i = n
    · subst c
      have ih := bN_in s i
      have b := byteAt_in s i
      rw [Int.add_mul_ediv_right _ _ (by omega), Int.ediv_eq_zero_of_lt ih.1 ih.2]
      omega
    · have ih := bN_at s i n (by omega)
      have e : (256 : Int) ^ n = 256 ^ (n - i - 1) * 256 * 256 ^ i := by
        rw [← Int.pow_succ, ← Int.pow_add]; congr 1; omega
      rw [e, show byteAt s (n : Int) * (256 ^ (n - i - 1) * 256 * 256 ^ i) = (byteAt s (n : Int) * 256 ^ (n - i - 1)) * 256 * 256 ^ i by
        generalize (256 : Int) ^ (n - i - 1) = x; generalize (256 : Int) ^ i = y; grind, Int.add_mul_ediv_right _ _ (by omega), Int.add_mul_emod_self_right]
      exact ih
theorem leF_bN {s : ByteArray} (h : s.size = 32) : leF s = bN s 32 := by
  unfold leF
  rw [if_pos (by omega)]
  simp only [bN]
  unfold val4 w8
  simp
  omega
theorem little_le {s : ByteArray} (h : s.size = 32) : littleF (leF s) = s := by
  have l := little_size (leF s)
  refine ba_ext (by omega) fun i hi => ?_
  rw [byteAt_little i rfl (by omega), leF_bN h, bN_at s i 32 (by omega)]
theorem leF_in (s : ByteArray) : 0 ≤ leF s ∧ leF s < 115792089237316195423570985008687907853269984665640564039457584007913129639936 := by
  by_cases h : s.size = 32
  · rw [leF_bN h]; exact bN_in s 32
  · unfold leF; rw [if_neg (by omega)]; omega
theorem big_size (n : Int) : ((bigF n).size : Int) = 32 := by unfold bigF; rw [revF_size, little_size]
theorem be_big {n : Int} (h0 : 0 ≤ n) (h1 : n < 115792089237316195423570985008687907853269984665640564039457584007913129639936) : beF (bigF n) = n := by
  unfold beF bigF; rw [revF_revF, leF_little h0 h1]
theorem big_be {s : ByteArray} (h : s.size = 32) : bigF (beF s) = s := by
  unfold beF bigF
  rw [little_le (by rw [revF_sz, h]), revF_revF]
theorem beF_in (s : ByteArray) : 0 ≤ beF s ∧ beF s < 115792089237316195423570985008687907853269984665640564039457584007913129639936 := leF_in _
def bigSpec : CSpec
  | [.agg [.int .u64 n0, .int .u64 n1, .int .u64 n2, .int .u64 n3]], k => ((U64 n0.val) ∧ (U64 n1.val) ∧ (U64 n2.val) ∧ (U64 n3.val)) ∧ (∀ r0 : ByteArray, r0 = (bigF (val4 n0.val n1.val n2.val n3.val)) → k (.str (.sym r0)))
  | _, _ => False
def VCBig (n0 : Int) (n1 : Int) (n2 : Int) (n3 : Int) : Prop :=
  (U64 n0 /\ U64 n1 /\ U64 n2 /\ U64 n3) /\ ∀ (v1 : ByteArray), v1 = littleF (val4 n0 n1 n2 n3) -> v1.size ≤ 140737488355328 /\ ∀ (v2 : ByteArray), v2 = revF v1 -> v2 = bigF (val4 n0 n1 n2 n3)
theorem tieBig (w0 : World) (n0 : Int) (n1 : Int) (n2 : Int) (n3 : Int) : VCBig n0 n1 n2 n3 = ((recN (GC Tryd.prog bytSpec w0) 40).call 31 [.agg [.int .u64 (.sym n0), .int .u64 (.sym n1), .int .u64 (.sym n2), .int .u64 (.sym n3)]] [] (fun r__ _ => eqV r__ (.str (.sym (bigF (val4 n0 n1 n2 n3)))))) := by kernel_rfl
theorem pureBig (n0 n1 n2 n3 : Int) (h : U64 n0 ∧ U64 n1 ∧ U64 n2 ∧ U64 n3) : VCBig n0 n1 n2 n3 := by
  refine ⟨h, fun v1 h1 => ?_⟩
  have := little_size (val4 n0 n1 n2 n3)
  rw [← h1] at this
  exact ⟨by omega, fun v2 h2 => by rw [h2, h1]; rfl⟩
theorem big_ok : SpecOk Tryd.prog 31 bigSpec := by
  intro args k h
  unfold bigSpec at h
  split at h
  · rename_i n0 n1 n2 n3
    obtain ⟨hr, h⟩ := h
    exact ⟨_, h _ rfl, PureOk.of_tie (GC Tryd.prog bytSpec) (fun w__ => gok w__ namesOk_ mixed_ byt_ok) (fun _ => rfl) (fun _ => rfl) (args' := [.agg [.int .u64 (.sym n0.val), .int .u64 (.sym n1.val), .int .u64 (.sym n2.val), .int .u64 (.sym n3.val)]]) ⟨⟨⟨rfl, rfl⟩, ⟨rfl, rfl⟩, ⟨rfl, rfl⟩, ⟨rfl, rfl⟩, trivial⟩, trivial⟩ 40 (fun w__ => VCBig n0.val n1.val n2.val n3.val) (fun w__ => tieBig w__ n0.val n1.val n2.val n3.val) (fun w__ => pureBig n0.val n1.val n2.val n3.val hr)⟩
  · exact h.elim

def rBigSpec : CSpec
  | [.agg [.int .u64 n0, .int .u64 n1, .int .u64 n2, .int .u64 n3]], k => ((U64 n0.val) ∧ (U64 n1.val) ∧ (U64 n2.val) ∧ (U64 n3.val)) ∧ (∀ r0 : ByteArray, r0 = (bigF (val4 n0.val n1.val n2.val n3.val)) → k (.str (.sym r0)))
  | _, _ => False
def VCRBig (n0 : Int) (n1 : Int) (n2 : Int) (n3 : Int) : Prop := VCBig n0 n1 n2 n3
theorem tieRBig (w0 : World) (n0 : Int) (n1 : Int) (n2 : Int) (n3 : Int) : VCRBig n0 n1 n2 n3 = ((recN (GC Tryd.prog bytSpec w0) 40).call 32 [.agg [.int .u64 (.sym n0), .int .u64 (.sym n1), .int .u64 (.sym n2), .int .u64 (.sym n3)]] [] (fun r__ _ => eqV r__ (.str (.sym (bigF (val4 n0 n1 n2 n3)))))) := by kernel_rfl
theorem pureRBig (n0 n1 n2 n3 : Int) (h : U64 n0 ∧ U64 n1 ∧ U64 n2 ∧ U64 n3) : VCRBig n0 n1 n2 n3 := pureBig n0 n1 n2 n3 h
theorem rBig_ok : SpecOk Tryd.prog 32 rBigSpec := by
  intro args k h
  unfold rBigSpec at h
  split at h
  · rename_i n0 n1 n2 n3
    obtain ⟨hr, h⟩ := h
    exact ⟨_, h _ rfl, PureOk.of_tie (GC Tryd.prog bytSpec) (fun w__ => gok w__ namesOk_ mixed_ byt_ok) (fun _ => rfl) (fun _ => rfl) (args' := [.agg [.int .u64 (.sym n0.val), .int .u64 (.sym n1.val), .int .u64 (.sym n2.val), .int .u64 (.sym n3.val)]]) ⟨⟨⟨rfl, rfl⟩, ⟨rfl, rfl⟩, ⟨rfl, rfl⟩, ⟨rfl, rfl⟩, trivial⟩, trivial⟩ 40 (fun w__ => VCRBig n0.val n1.val n2.val n3.val) (fun w__ => tieRBig w__ n0.val n1.val n2.val n3.val) (fun w__ => pureRBig n0.val n1.val n2.val n3.val hr)⟩
  · exact h.elim

def fromBigSpec : CSpec
  | [.str s], k => ((s.val.size ≤ 140737488355328)) ∧ (∀ r0 : Int, r0 = (beF s.val) → ∀ r1 : Int, r1 = (erF s.val.size 32) → k (.tup [.agg [.int .u64 (.sym (limb r0 0)), .int .u64 (.sym (limb r0 1)), .int .u64 (.sym (limb r0 2)), .int .u64 (.sym (limb r0 3))], .int .i64 (.sym r1)]))
  | _, _ => False
def VCFromBig (s : ByteArray) : Prop :=
  s.size ≤ 140737488355328 /\ ∀ (v1 : ByteArray), v1 = revF s -> True /\ ∀ v2, v2 = leF v1 -> ∀ v3, v3 = erF ↑v1.size (32 : Int) -> ((IntKind.u64 = IntKind.u64 /\ limb v2 0 = limb (beF s) 0) /\ (IntKind.u64 = IntKind.u64 /\ limb v2 1 = limb (beF s) 1) /\ (IntKind.u64 = IntKind.u64 /\ limb v2 2 = limb (beF s) 2) /\ (IntKind.u64 = IntKind.u64 /\ limb v2 3 = limb (beF s) 3) /\ True) /\ (IntKind.i64 = IntKind.i64 /\ v3 = erF ↑s.size (32 : Int)) /\ True
theorem tieFromBig (w0 : World) (s : ByteArray) : VCFromBig s = ((recN (GC Tryd.prog bytSpec w0) 40).call 25 [.str (.sym s)] [] (fun r__ _ => eqV r__ (.tup [.agg [.int .u64 (.sym (limb (beF s) 0)), .int .u64 (.sym (limb (beF s) 1)), .int .u64 (.sym (limb (beF s) 2)), .int .u64 (.sym (limb (beF s) 3))], .int .i64 (.sym (erF s.size 32))]))) := by kernel_rfl
theorem pureFromBig (s : ByteArray) (h : s.size ≤ 140737488355328) : VCFromBig s := by
  refine ⟨h, fun v1 h1 => ⟨trivial, fun v2 h2 v3 h3 => ?_⟩⟩
  subst h1
  rw [revF_size] at h3
  subst h2; subst h3
  exact ⟨⟨⟨rfl, rfl⟩, ⟨rfl, rfl⟩, ⟨rfl, rfl⟩, ⟨rfl, rfl⟩, trivial⟩, ⟨rfl, rfl⟩, trivial⟩
theorem fromBig_ok : SpecOk Tryd.prog 25 fromBigSpec := by
  intro args k h
  unfold fromBigSpec at h
  split at h
  · rename_i s
    obtain ⟨hr, h⟩ := h
    exact ⟨_, h _ rfl _ rfl, PureOk.of_tie (GC Tryd.prog bytSpec) (fun w__ => gok w__ namesOk_ mixed_ byt_ok) (fun _ => rfl) (fun _ => rfl) (args' := [.str (.sym s.val)]) ⟨rfl, trivial⟩ 40 (fun w__ => VCFromBig s.val) (fun w__ => tieFromBig w__ s.val) (fun w__ => pureFromBig s.val hr)⟩
  · exact h.elim

def rFromBigSpec : CSpec
  | [.str s], k => ((s.val.size ≤ 140737488355328)) ∧ (∀ r0 : Int, r0 = (beF s.val) → ∀ r1 : Int, r1 = (erF s.val.size 32) → k (.tup [.agg [.int .u64 (.sym (limb r0 0)), .int .u64 (.sym (limb r0 1)), .int .u64 (.sym (limb r0 2)), .int .u64 (.sym (limb r0 3))], .int .i64 (.sym r1)]))
  | _, _ => False
def VCRFromBig (s : ByteArray) : Prop := VCFromBig s
theorem tieRFromBig (w0 : World) (s : ByteArray) : VCRFromBig s = ((recN (GC Tryd.prog bytSpec w0) 40).call 26 [.str (.sym s)] [] (fun r__ _ => eqV r__ (.tup [.agg [.int .u64 (.sym (limb (beF s) 0)), .int .u64 (.sym (limb (beF s) 1)), .int .u64 (.sym (limb (beF s) 2)), .int .u64 (.sym (limb (beF s) 3))], .int .i64 (.sym (erF s.size 32))]))) := by kernel_rfl
theorem pureRFromBig (s : ByteArray) (h : s.size ≤ 140737488355328) : VCRFromBig s := pureFromBig s h
theorem rFromBig_ok : SpecOk Tryd.prog 26 rFromBigSpec := by
  intro args k h
  unfold rFromBigSpec at h
  split at h
  · rename_i s
    obtain ⟨hr, h⟩ := h
    exact ⟨_, h _ rfl _ rfl, PureOk.of_tie (GC Tryd.prog bytSpec) (fun w__ => gok w__ namesOk_ mixed_ byt_ok) (fun _ => rfl) (fun _ => rfl) (args' := [.str (.sym s.val)]) ⟨rfl, trivial⟩ 40 (fun w__ => VCRFromBig s.val) (fun w__ => tieRFromBig w__ s.val) (fun w__ => pureRFromBig s.val hr)⟩
  · exact h.elim

end Go.Proofs.YtaaobpalpcdlbaaDoor.Bits
