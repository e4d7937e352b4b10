import Derived.Test.YtaaobpalpcdlbaaSxN
import Derived.Test.YtaaobpalpcdlbaaSxP
import Derived.Test.YtaaobpalpcdlbaaSxR
import Derived.Test.YtaaobpalpcdlbaaProg
import Derived.Test.YtaaobpalpcdlbaaXdh6
import Derived.KernelRfl
namespace Go.Proofs.Ytaaobpalpcdlbaa.Bits
open Go Go.Sx Go.RowKit Go.EC
set_option linter.unusedVariables false
set_option maxRecDepth 100000
def xd7Spec : List (FuncId × CSpec) := [(40, clampSpec), (41, rClampSpec), (42, rawSpec), (43, rRawSpec), (44, sharedSpec), (45, rSharedSpec), (49, publicSpec), (50, rPublicSpec), (51, onSpec), (52, rOnSpec), (46, awake3Spec)]
theorem xd7_ok : SpecsOk Try.prog xd7Spec := ⟨clamp_ok, rClamp_ok, raw_ok, rRaw_ok, shared_ok, rShared_ok, public_ok, rPublic_ok, on_ok, rOn_ok, awake3_ok, trivial⟩
theorem byteAt_mk {l : List Int} {i : Nat} {x : Int} (h : l[i]? = some x) (h0 : 0 ≤ x) (h1 : x < 256) : byteAt (mkBytes l) (i : Int) = x := by
  unfold byteAt mkBytes
  simp only [List.getElem?_map, Int.toNat_natCast, h, Option.map_some, Option.getD_some]
  have : (UInt8.ofNat x.toNat).toNat = x.toNat % 256 := rfl
  rw [this]; omega
theorem byteAt_little {n k : Int} (i : Nat) (hk : k = i) (hi : i < 32) : byteAt (littleF n) k = n / 256 ^ i % 256 := by
  subst hk
  refine byteAt_mk ?_ (by omega) (by omega)
  rw [List.getElem?_map, List.getElem?_range hi]; rfl
theorem little_size (n : Int) : ((littleF n).size : Int) = 32 := by
  unfold littleF mkBytes
  simp [ByteArray.size]
theorem w8_little (n : Int) (j : Nat) (hj : j < 4) {k p : Int} (hk : k = ((8 * j : Nat) : Int)) (hp : p = 256 ^ (8 * j)) : w8 (littleF n) k = n / p % 18446744073709551616 := by
  have c : ∀ q : Nat, n / 256 ^ (8 * j + q) = n / p / 256 ^ q := fun q => by
    rw [hp, Int.ediv_ediv_of_nonneg (Int.le_of_lt (Int.pow_pos (by omega))), ← Int.pow_add]
  have b : ∀ (q : Nat) (t : Int), t = q → q < 8 → byteAt (littleF n) (k + t) = n / p / 256 ^ q % 256 := fun q t ht hq => by
    rw [byteAt_little (8 * j + q) (by rw [hk, ht]; push_cast; rfl) (by omega), c]
  have b0 : byteAt (littleF n) k = n / p / 256 ^ 0 % 256 := by have := b 0 0 rfl (by omega); rwa [Int.add_zero] at this
  unfold w8
  rw [b0, b 1 1 rfl (by omega), b 2 2 rfl (by omega), b 3 3 rfl (by omega), b 4 4 rfl (by omega), b 5 5 rfl (by omega), b 6 6 rfl (by omega), b 7 7 rfl (by omega)]
  generalize n / p = m
  omega
theorem leF_little {n : Int} (h0 : 0 ≤ n) (h1 : n < 115792089237316195423570985008687907853269984665640564039457584007913129639936) : leF (littleF n) = n := by
  unfold leF
  rw [if_pos (little_size n), w8_little n 0 (by omega) (k := 0) (p := 1) rfl rfl, w8_little n 1 (by omega) (k := 8) (p := 18446744073709551616) rfl (by decide), w8_little n 2 (by omega) (k := 16) (p := 340282366920938463463374607431768211456) rfl (by decide), w8_little n 3 (by omega) (k := 24) (p := 6277101735386680763835789423207666416102355444464034512896) rfl (by decide)]
  unfold val4
  omega
theorem brT2 {A B : Prop} (v : Bool) (h : v = true) (ha : A) : (v = true → A) ∧ (v = false → B) := by subst h; exact ⟨fun _ => ha, fun z => absurd z (by decide)⟩
theorem bTF {a b : ByteArray} {A B : Prop} (h : a = b) (ha : A) (v : Bool) (hv : v = (a == b)) : (v = true → A) ∧ (v = false → B) := brBA (fun _ => ha) (fun z => absurd h z) v hv
theorem eTF {a b : Int} {A B : Prop} (h : a = b) (ha : A) (v : Bool) (hv : v = (a == b)) : (v = true → A) ∧ (v = false → B) := brE (fun _ => ha) (fun z => absurd h z) v hv
def VCXdhTells (s : ByteArray) (u : ByteArray) : Prop :=
  True /\ ∀ v1, v1 = cvF s -> ∀ v2, v2 = erF ↑s.size (32 : Int) -> True /\ ∀ v3, v3 = cvF s -> ∀ v4, v4 = erF ↑s.size (32 : Int) -> True /\ ∀ (v5 : ByteArray), v5 = rawF s u -> ∀ v6, v6 = rawE s u -> True /\ ∀ (v7 : ByteArray), v7 = rawF s u -> ∀ v8, v8 = rawE s u -> True /\ ∀ (v9 : ByteArray), v9 = shaF s u -> ∀ v10, v10 = shaE s u -> True /\ ∀ (v11 : ByteArray), v11 = shaF s u -> ∀ v12, v12 = shaE s u -> ∀ v13, v13 = (limb v1 0 == limb v3 0 && (limb v1 1 == limb v3 1 && (limb v1 2 == limb v3 2 && (limb v1 3 == limb v3 3 && true)))) -> (v13 = true -> ∀ v14, v14 = (v2 == v4) -> (v14 = true -> ∀ v15, v15 = (v5 == v7) -> (v15 = true -> ∀ v16, v16 = (v6 == v8) -> (v16 = true -> ∀ v17, v17 = (v9 == v11) -> (v17 = true -> ∀ v18, v18 = (v10 == v12) -> (v18 = true -> True /\ true = true) /\ (v18 = false -> false = true)) /\ (v17 = false -> false = true)) /\ (v16 = false -> false = true)) /\ (v15 = false -> false = true)) /\ (v14 = false -> false = true)) /\ (v13 = false -> false = true)
theorem tieXdhTells (w0 : World) (s : ByteArray) (u : ByteArray) : VCXdhTells s u = ((recN (GC Try.prog xd7Spec w0) 40).call 8 [.str (.sym s), .str (.sym u)] [] (fun v _ => isTrue v)) := by kernel_rfl
theorem pureXdhTells (s u : ByteArray) (h : (s.size ≤ 140737488351232) ∧ (u.size ≤ 140737488351232)) : VCXdhTells s u := by
  refine ⟨trivial, fun v1 h1 v2 h2 => ⟨trivial, fun v3 h3 v4 h4 => ⟨trivial, fun v5 h5 v6 h6 => ⟨trivial, fun v7 h7 v8 h8 => ⟨trivial, fun v9 h9 v10 h10 => ⟨trivial, fun v11 h11 v12 h12 => ?_⟩⟩⟩⟩⟩⟩
  exact brT (leq (h1.trans h3.symm)) (eTF (h2.trans h4.symm) (bTF (h5.trans h7.symm) (eTF (h6.trans h8.symm) (bTF (h9.trans h11.symm) (eTF (h10.trans h12.symm) ⟨trivial, rfl⟩)))))
theorem walkXdhTells (s : ByteArray) (u : ByteArray) (w0 : World) (hs : s.size ≤ 140737488351232) (hu : u.size ≤ 140737488351232) : Calls Try.prog 8 #[.string s, .string u] w0 fun e w' => e = .returned (.bool true) ∧ Below w0.heap.size w0 w' :=
  law_tie (G := GC Try.prog xd7Spec w0) (gok w0 namesOk_ mixed_ xd7_ok) (n := 40) (f := 8) (args := [.str (.sym s), .str (.sym u)]) (by kernel_rfl) (VCXdhTells s u) (tieXdhTells w0 s u) (pureXdhTells s u ⟨hs, hu⟩)

def VCXdhCurve (s : ByteArray) (u : ByteArray) : Prop :=
  True /\ ∀ (v1 : ByteArray), v1 = pubF s -> ∀ v2, v2 = pubE s -> True /\ ∀ (v3 : ByteArray), v3 = pubF s -> ∀ v4, v4 = pubE s -> ∀ v5, v5 = (v1 == v3) -> (v5 = true -> ∀ v6, v6 = (v2 == v4) -> (v6 = true -> True /\ ∀ v7, v7 = onF u -> True /\ ∀ v8, v8 = onF u -> ∀ v9, v9 = (v7 == v8) -> (v9 = true -> True /\ true = true) /\ (v9 = false -> false = true)) /\ (v6 = false -> false = true)) /\ (v5 = false -> false = true)
theorem tieXdhCurve (w0 : World) (s : ByteArray) (u : ByteArray) : VCXdhCurve s u = ((recN (GC Try.prog xd7Spec w0) 40).call 10 [.str (.sym s), .str (.sym u)] [] (fun v _ => isTrue v)) := by kernel_rfl
theorem pureXdhCurve (s u : ByteArray) (h : (s.size ≤ 140737488351232) ∧ (u.size ≤ 140737488351232)) : VCXdhCurve s u := by
  refine ⟨trivial, fun v1 h1 v2 h2 => ⟨trivial, fun v3 h3 v4 h4 => bTF (h1.trans h3.symm) (eTF (h2.trans h4.symm) ⟨trivial, fun v7 h7 => ⟨trivial, fun v8 h8 => brT ?_ ⟨trivial, rfl⟩⟩⟩)⟩⟩
  rw [h7, h8]; simp
theorem walkXdhCurve (s : ByteArray) (u : ByteArray) (w0 : World) (hs : s.size ≤ 140737488351232) (hu : u.size ≤ 140737488351232) : Calls Try.prog 10 #[.string s, .string u] w0 fun e w' => e = .returned (.bool true) ∧ Below w0.heap.size w0 w' :=
  law_tie (G := GC Try.prog xd7Spec w0) (gok w0 namesOk_ mixed_ xd7_ok) (n := 40) (f := 10) (args := [.str (.sym s), .str (.sym u)]) (by kernel_rfl) (VCXdhCurve s u) (tieXdhCurve w0 s u) (pureXdhCurve s u ⟨hs, hu⟩)

end Go.Proofs.Ytaaobpalpcdlbaa.Bits
