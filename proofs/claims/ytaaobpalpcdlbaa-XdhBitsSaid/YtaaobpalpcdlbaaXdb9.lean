import Derived.Test.YtaaobpalpcdlbaaSxN
import Derived.Test.YtaaobpalpcdlbaaSxP
import Derived.Test.YtaaobpalpcdlbaaSxR
import Derived.Test.YtaaobpalpcdlbaaProg
import Derived.Test.YtaaobpalpcdlbaaXdb6
import Derived.KernelRfl
namespace Go.Proofs.Ytaaobpalpcdlbaa.Bits
open Go Go.Sx Go.RowKit Go.EC
set_option linter.unusedVariables false
set_option maxRecDepth 100000
def xd9Spec : List (FuncId × CSpec) := [(42, rawSpec), (46, awake3Spec), (47, rFromLittleSpec), (30, rAddSpec), (48, rLittleSpec)]
theorem xd9_ok : SpecsOk Try.prog xd9Spec := ⟨raw_ok, awake3_ok, rFromLittle_ok, rAdd_ok, rLittle_ok, trivial⟩
theorem bA (s : ByteArray) (i : Nat) : byteAt s (i : Int) = ((s.data[i]?).getD 0).toNat := by
  unfold byteAt; rw [Int.toNat_natCast, Array.getElem?_toList]
theorem byteAt_l {a b : ByteArray} {i : Nat} (h : i < a.size) : byteAt (a ++ b) (i : Int) = byteAt a (i : Int) := by
  rw [bA, bA, ByteArray.data_append, Array.getElem?_append_left h]
theorem byteAt_r {a b : ByteArray} {i : Nat} (h : a.size ≤ i) : byteAt (a ++ b) (i : Int) = byteAt b ((i - a.size : Nat) : Int) := by
  rw [bA, bA, ByteArray.data_append, Array.getElem?_append_right h]; rfl
theorem byteAt_e {a : ByteArray} {lo hi i : Nat} (h : lo + i < hi) (h2 : hi ≤ a.size) : byteAt (a.extract lo hi) (i : Int) = byteAt a ((lo + i : Nat) : Int) := by
  rw [bA, bA, ByteArray.data_extract, Array.getElem?_extract]
  rw [if_pos]
  have : a.data.size = a.size := rfl
  omega
theorem all256 {p : Nat → Bool} (h : (List.range 256).all p = true) {b : Int} (h0 : 0 ≤ b) (h1 : b ≤ 255) : p b.toNat = true := by
  rw [List.all_eq_true] at h
  exact h _ (List.mem_range.2 (by omega))
theorem b_and248 {b : Int} (h0 : 0 ≤ b) (h1 : b ≤ 255) : bitI .and .u8 b 248 = b - b % 8 := by
  have := all256 (p := fun i => decide (bitI .and .u8 (i : Int) 248 = (i : Int) - (i : Int) % 8)) (by decide +kernel) h0 h1
  have := of_decide_eq_true this
  rwa [Int.toNat_of_nonneg h0] at this
theorem b_and7 {b : Int} (h0 : 0 ≤ b) (h1 : b ≤ 255) : bitI .and .u8 b 7 = b % 8 := by
  have := all256 (p := fun i => decide (bitI .and .u8 (i : Int) 7 = (i : Int) % 8)) (by decide +kernel) h0 h1
  have := of_decide_eq_true this
  rwa [Int.toNat_of_nonneg h0] at this
theorem b_and128 {b : Int} (h0 : 0 ≤ b) (h1 : b ≤ 255) : bitI .and .u8 b 128 = b / 128 * 128 := by
  have := all256 (p := fun i => decide (bitI .and .u8 (i : Int) 128 = (i : Int) / 128 * 128)) (by decide +kernel) h0 h1
  have := of_decide_eq_true this
  rwa [Int.toNat_of_nonneg h0] at this
theorem b_or {b r : Int} (h0 : 0 ≤ b) (h1 : b ≤ 255) (r0 : 0 ≤ r) (r1 : r < 8) : bitI .or .u8 (b - b % 8) r = b - b % 8 + r := by
  have := all256 (p := fun i => (List.range 8).all fun j => decide (bitI .or .u8 ((i : Int) - (i : Int) % 8) (j : Int) = (i : Int) - (i : Int) % 8 + (j : Int))) (by decide +kernel) h0 h1
  rw [List.all_eq_true] at this
  have := of_decide_eq_true (this r.toNat (List.mem_range.2 (by omega)))
  rwa [Int.toNat_of_nonneg h0, Int.toNat_of_nonneg r0] at this
theorem b_xor {b t : Int} (h0 : 0 ≤ b) (h1 : b ≤ 255) (ht : t = 0 ∨ t = 128) : bitI .xor .u8 b t % 128 = b % 128 ∧ 0 ≤ bitI .xor .u8 b t ∧ bitI .xor .u8 b t < 256 := by
  have := all256 (p := fun i => decide (bitI .xor .u8 (i : Int) 0 % 128 = (i : Int) % 128 ∧ 0 ≤ bitI .xor .u8 (i : Int) 0 ∧ bitI .xor .u8 (i : Int) 0 < 256) && decide (bitI .xor .u8 (i : Int) 128 % 128 = (i : Int) % 128 ∧ 0 ≤ bitI .xor .u8 (i : Int) 128 ∧ bitI .xor .u8 (i : Int) 128 < 256)) (by decide +kernel) h0 h1
  rw [Bool.and_eq_true] at this
  have k1 := of_decide_eq_true this.1
  have k2 := of_decide_eq_true this.2
  rw [Int.toNat_of_nonneg h0] at k1 k2
  rcases ht with rfl | rfl
  · exact k1
  · exact k2
theorem mk1 {x : Int} (h0 : 0 ≤ x) (h1 : x < 256) : (mkBytes [x]).size = 1 ∧ byteAt (mkBytes [x]) ((0 : Nat) : Int) = x := ⟨rfl, byteAt_mk (l := [x]) (i := 0) rfl h0 h1⟩
def midF (s : ByteArray) : Int := (byteAt s 1 + byteAt s 2 * 256 + byteAt s 3 * 65536 + byteAt s 4 * 16777216 + byteAt s 5 * 4294967296 + byteAt s 6 * 1099511627776 + byteAt s 7 * 281474976710656) + w8 s 8 * 72057594037927936 + w8 s 16 * 1329227995784915872903807060280344576 + (byteAt s 24 + byteAt s 25 * 256 + byteAt s 26 * 65536 + byteAt s 27 * 16777216 + byteAt s 28 * 4294967296 + byteAt s 29 * 1099511627776 + byteAt s 30 * 281474976710656) * 24519928653854221733733552434404946937899825954937634816
theorem mid_le (s : ByteArray) (h : (s.size : Int) = 32) : leF s = byteAt s 0 + 256 * midF s + 452312848583266388373324160190187140051835877600158453279131187530910662656 * byteAt s 31 := by
  unfold leF
  rw [if_pos h]
  unfold midF val4 w8
  have e : ((0 : Int) + 1 = 1 ∧ (0 : Int) + 2 = 2 ∧ (0 : Int) + 3 = 3 ∧ (0 : Int) + 4 = 4 ∧ (0 : Int) + 5 = 5 ∧ (0 : Int) + 6 = 6 ∧ (0 : Int) + 7 = 7) ∧ ((24 : Int) + 1 = 25 ∧ (24 : Int) + 2 = 26 ∧ (24 : Int) + 3 = 27 ∧ (24 : Int) + 4 = 28 ∧ (24 : Int) + 5 = 29 ∧ (24 : Int) + 6 = 30 ∧ (24 : Int) + 7 = 31) := by decide
  obtain ⟨⟨e1, e2, e3, e4, e5, e6, e7⟩, ⟨f1, f2, f3, f4, f5, f6, f7⟩⟩ := e
  rw [e1, e2, e3, e4, e5, e6, e7, f1, f2, f3, f4, f5, f6, f7]
  omega
theorem mid_in (s : ByteArray) : 0 ≤ midF s ∧ midF s < 1766847064778384329583297500742918515827483896875618958121606201292619776 := by
  have b := byteAt_in s
  unfold midF w8
  have b1 := b 1
  have b2 := b 2
  have b3 := b 3
  have b4 := b 4
  have b5 := b 5
  have b6 := b 6
  have b7 := b 7
  have c0 := b 8
  have c1 := b (8 + 1)
  have c2 := b (8 + 2)
  have c3 := b (8 + 3)
  have c4 := b (8 + 4)
  have c5 := b (8 + 5)
  have c6 := b (8 + 6)
  have c7 := b (8 + 7)
  have d0 := b 16
  have d1 := b (16 + 1)
  have d2 := b (16 + 2)
  have d3 := b (16 + 3)
  have d4 := b (16 + 4)
  have d5 := b (16 + 5)
  have d6 := b (16 + 6)
  have d7 := b (16 + 7)
  have f0 := b 24
  have f1 := b 25
  have f2 := b 26
  have f3 := b 27
  have f4 := b 28
  have f5 := b 29
  have f6 := b 30
  omega
theorem mid_eq {s t : ByteArray} (h : ∀ i : Nat, 0 < i → i < 31 → byteAt s (i : Int) = byteAt t (i : Int)) : midF s = midF t := by
  have g : ∀ k : Int, 0 < k → k < 31 → byteAt s k = byteAt t k := fun k k0 k1 => by
    have := h k.toNat (by omega) (by omega)
    rwa [Int.toNat_of_nonneg (by omega)] at this
  unfold midF w8
  rw [g 1 (by decide) (by decide), g 2 (by decide) (by decide), g 3 (by decide) (by decide), g 4 (by decide) (by decide), g 5 (by decide) (by decide), g 6 (by decide) (by decide), g 7 (by decide) (by decide),
    g 8 (by decide) (by decide), g (8 + 1) (by decide) (by decide), g (8 + 2) (by decide) (by decide), g (8 + 3) (by decide) (by decide), g (8 + 4) (by decide) (by decide), g (8 + 5) (by decide) (by decide), g (8 + 6) (by decide) (by decide), g (8 + 7) (by decide) (by decide),
    g 16 (by decide) (by decide), g (16 + 1) (by decide) (by decide), g (16 + 2) (by decide) (by decide), g (16 + 3) (by decide) (by decide), g (16 + 4) (by decide) (by decide), g (16 + 5) (by decide) (by decide), g (16 + 6) (by decide) (by decide), g (16 + 7) (by decide) (by decide),
    g 24 (by decide) (by decide), g 25 (by decide) (by decide), g 26 (by decide) (by decide), g 27 (by decide) (by decide), g 28 (by decide) (by decide), g 29 (by decide) (by decide), g 30 (by decide) (by decide)]
theorem cv_same {s t : ByteArray} (hs : (s.size : Int) = 32) (ht : (t.size : Int) = 32) (hm : midF s = midF t) (h0 : byteAt s 0 / 8 = byteAt t 0 / 8) (h1 : byteAt s 31 % 128 = byteAt t 31 % 128) : cvF s = cvF t := by
  unfold cvF
  rw [if_pos hs, if_pos ht, mid_le s hs, mid_le t ht, hm]
  have := mid_in t
  have a0 := byteAt_in s 0
  have b0 := byteAt_in t 0
  have a1 := byteAt_in s 31
  have b1 := byteAt_in t 31
  generalize midF t = m at *
  generalize byteAt s 0 = x at *
  generalize byteAt t 0 = y at *
  generalize byteAt s 31 = z at *
  generalize byteAt t 31 = w at *
  unfold clF
  omega
theorem co_same {s t : ByteArray} (hs : (s.size : Int) = 32) (ht : (t.size : Int) = 32) (hm : midF s = midF t) (h0 : byteAt s 0 = byteAt t 0) (h1 : byteAt s 31 % 128 = byteAt t 31 % 128) : coF s = coF t := by
  unfold coF
  rw [if_pos hs, if_pos ht, mid_le s hs, mid_le t ht, hm, h0]
  have := mid_in t
  have b0 := byteAt_in t 0
  have a1 := byteAt_in s 31
  have b1 := byteAt_in t 31
  generalize midF t = m at *
  generalize byteAt t 0 = y at *
  generalize byteAt s 31 = z at *
  generalize byteAt t 31 = w at *
  congr 1
  omega
theorem raw_same {s t u v : ByteArray} (hs : (s.size : Int) = 32) (ht : (t.size : Int) = 32) (hu : (u.size : Int) = 32) (hv : (v.size : Int) = 32) (h : cvF s = cvF t) (k : coF u = coF v) : rawF s u = rawF t v := by
  rw [(raw_yes hs hu).1, (raw_yes ht hv).1, h, k]
theorem ends {s : ByteArray} (hs : s.size = 32) {x y : Int} (hx : 0 ≤ x ∧ x < 256) (hy : 0 ≤ y ∧ y < 256) : (((mkBytes [x] ++ s.extract 1 31) ++ mkBytes [y]).size : Int) = 32 ∧ midF ((mkBytes [x] ++ s.extract 1 31) ++ mkBytes [y]) = midF s ∧ byteAt ((mkBytes [x] ++ s.extract 1 31) ++ mkBytes [y]) 0 = x ∧ byteAt ((mkBytes [x] ++ s.extract 1 31) ++ mkBytes [y]) 31 = y := by
  obtain ⟨x1, x2⟩ := mk1 hx.1 hx.2
  obtain ⟨y1, y2⟩ := mk1 hy.1 hy.2
  have e1 : (s.extract 1 31).size = 30 := by rw [ByteArray.size_extract, hs]; rfl
  have e2 : (mkBytes [x] ++ s.extract 1 31).size = 31 := by rw [ByteArray.size_append, e1, x1]
  refine ⟨by rw [ByteArray.size_append, e2, y1]; rfl, mid_eq fun i h0 h1 => ?_, ?_, ?_⟩
  · rw [byteAt_l (by omega), byteAt_r (by omega), x1, byteAt_e (by omega) (by omega)]
    congr 2; omega
  · have := byteAt_l (a := mkBytes [x] ++ s.extract 1 31) (b := mkBytes [y]) (i := 0) (by omega)
    rw [byteAt_l (a := mkBytes [x]) (by omega), x2] at this
    exact this
  · have := byteAt_r (a := mkBytes [x] ++ s.extract 1 31) (b := mkBytes [y]) (i := 31) (by omega)
    rw [e2, Nat.sub_self, y2] at this
    exact this
theorem ends2 {s : ByteArray} (hs : s.size = 32) {y : Int} (hy : 0 ≤ y ∧ y < 256) : ((s.extract 0 31 ++ mkBytes [y]).size : Int) = 32 ∧ midF (s.extract 0 31 ++ mkBytes [y]) = midF s ∧ byteAt (s.extract 0 31 ++ mkBytes [y]) 0 = byteAt s 0 ∧ byteAt (s.extract 0 31 ++ mkBytes [y]) 31 = y := by
  obtain ⟨y1, y2⟩ := mk1 hy.1 hy.2
  have e2 : (s.extract 0 31).size = 31 := by rw [ByteArray.size_extract, hs]; rfl
  refine ⟨by rw [ByteArray.size_append, e2, y1]; rfl, mid_eq fun i h0 h1 => ?_, ?_, ?_⟩
  · rw [byteAt_l (by omega), byteAt_e (by omega) (by omega)]
    congr 2; omega
  · have := byteAt_l (a := s.extract 0 31) (b := mkBytes [y]) (i := 0) (by omega)
    rw [byteAt_e (by omega) (by omega)] at this
    exact this
  · have := byteAt_r (a := s.extract 0 31) (b := mkBytes [y]) (i := 31) (by omega)
    rw [e2, Nat.sub_self, y2] at this
    exact this
def VCXdhBits (s : ByteArray) (u : ByteArray) (low : Int) : Prop :=
  ∀ (v1 : Int), v1 = ↑s.size -> ∀ v2, v2 = (v1 != (32 : Int)) -> (v2 = false -> ∀ (v3 : Int), v3 = ↑u.size -> ∀ v4, v4 = (v3 != (32 : Int)) -> (v4 = true -> True /\ true = true) /\ (v4 = false -> ((0 : Int) ≤ (0 : Int) /\ (0 : Int) < ↑s.size) /\ ∀ v5, v5 = byteAt s (0 : Int) -> ∀ v6, v6 = bitI BinOp.and IntKind.u8 v5 (248 : Int) -> ∀ v7, v7 = bitI BinOp.and IntKind.u8 low (7 : Int) -> ∀ v8, v8 = bitI BinOp.or IntKind.u8 v6 v7 -> ∀ (v9 : ByteArray), v9 = mkBytes [v8] -> ((0 : Int) ≤ (1 : Int) /\ (1 : Int) ≤ (31 : Int) /\ (31 : Int) ≤ ↑s.size) /\ ∀ (v10 : ByteArray), v10 = s.extract 1 31 -> ↑(v9.size + v10.size) ≤ (9223372036854775807 : Int) /\ ∀ (v11 : ByteArray), v11 = v9 ++ v10 -> ((0 : Int) ≤ (31 : Int) /\ (31 : Int) < ↑s.size) /\ ∀ v12, v12 = byteAt s (31 : Int) -> ∀ v13, v13 = bitI BinOp.and IntKind.u8 low (128 : Int) -> ∀ v14, v14 = bitI BinOp.xor IntKind.u8 v12 v13 -> ∀ (v15 : ByteArray), v15 = mkBytes [v14] -> ↑(v11.size + v15.size) ≤ (9223372036854775807 : Int) /\ ∀ (v16 : ByteArray), v16 = v11 ++ v15 -> ((0 : Int) ≤ (0 : Int) /\ (0 : Int) ≤ (31 : Int) /\ (31 : Int) ≤ ↑u.size) /\ ∀ (v17 : ByteArray), v17 = u.extract 0 31 -> ((0 : Int) ≤ (31 : Int) /\ (31 : Int) < ↑u.size) /\ ∀ v18, v18 = byteAt u (31 : Int) -> ∀ v19, v19 = bitI BinOp.and IntKind.u8 low (128 : Int) -> ∀ v20, v20 = bitI BinOp.xor IntKind.u8 v18 v19 -> ∀ (v21 : ByteArray), v21 = mkBytes [v20] -> ↑(v17.size + v21.size) ≤ (9223372036854775807 : Int) /\ ∀ (v22 : ByteArray), v22 = v17 ++ v21 -> True /\ ∀ (v23 : ByteArray), v23 = rawF s u -> ∀ v24, v24 = rawE s u -> True /\ ∀ (v25 : ByteArray), v25 = rawF v16 v22 -> ∀ v26, v26 = rawE v16 v22 -> ∀ (v27 : Bool), v27 = !v23 == v25 -> (v27 = false -> ∀ v28, v28 = (v24 != (0 : Int)) -> (v28 = false -> ∀ v29, v29 = (v26 != (0 : Int)) -> (v29 = true -> false = true) /\ (v29 = false -> True /\ ∀ v30, v30 = leF u -> ∀ v31, v31 = erF ↑u.size (32 : Int) -> ∀ v32, v32 = bitI BinOp.and IntKind.u64 (limb v30 3) (9223372036854775807 : Int) -> ∀ v33, v33 = decide (limb v30 0 ≥ (19 : Int)) -> (v33 = false -> ∀ v34, v34 = (limb v30 1 != (0 : Int)) -> (v34 = false -> ∀ v35, v35 = (limb v30 2 != (0 : Int)) -> (v35 = false -> ∀ v36, v36 = (v32 != (0 : Int)) -> (v36 = true -> True /\ true = true) /\ (v36 = false -> (U64 (limb v30 0) /\ U64 (limb v30 1) /\ U64 (limb v30 2) /\ U64 v32 /\ U64 18446744073709551597 /\ U64 18446744073709551615 /\ U64 18446744073709551615 /\ U64 9223372036854775807) /\ ∀ v37, v37 = val4 (limb v30 0) (limb v30 1) (limb v30 2) v32 + (57896044618658097711785492504343953926634992332820282019728792003956564819949 : Int) -> ∀ v38, v38 = (val4 (limb v30 0) (limb v30 1) (limb v30 2) v32 + (57896044618658097711785492504343953926634992332820282019728792003956564819949 : Int)) / (115792089237316195423570985008687907853269984665640564039457584007913129639936 : Int) -> (U64 (limb v37 0) /\ U64 (limb v37 1) /\ U64 (limb v37 2) /\ U64 (limb v37 3)) /\ ∀ (v39 : ByteArray), v39 = littleF (val4 (limb v37 0) (limb v37 1) (limb v37 2) (limb v37 3)) -> True /\ ∀ (v40 : ByteArray), v40 = rawF s v39 -> ∀ v41, v41 = rawE s v39 -> ∀ v42, v42 = (v40 == v23) -> (v42 = true -> ∀ v43, v43 = (v41 == (0 : Int)) -> (v43 = true -> True /\ true = true) /\ (v43 = false -> false = true)) /\ (v42 = false -> false = true))) /\ (v35 = true -> True /\ true = true)) /\ (v34 = true -> True /\ true = true)) /\ (v33 = true -> True /\ true = true))) /\ (v28 = true -> false = true)) /\ (v27 = true -> false = true))) /\ (v2 = true -> True /\ true = true)
theorem tieXdhBits (w0 : World) (s : ByteArray) (u : ByteArray) (low : Int) : VCXdhBits s u low = ((recN (GC Try.prog xd9Spec w0) 40).call 9 [.str (.sym s), .str (.sym u), .int .u8 (.sym low)] [] (fun v _ => isTrue v)) := by kernel_rfl
theorem pureXdhBits (s u : ByteArray) (low : Int) (h : (s.size ≤ 140737488351232) ∧ (u.size ≤ 140737488351232) ∧ U8 low) : VCXdhBits s u low := by
  obtain ⟨_, _, hl⟩ := h
  have hl : 0 ≤ low ∧ low ≤ 255 := hl
  rintro v1 rfl
  refine rbN (fun c => ?_) fun _ => ⟨trivial, rfl⟩
  rintro v3 rfl
  refine brN (fun _ => ⟨trivial, rfl⟩) fun d => ?_
  have c' : s.size = 32 := by omega
  have d' : u.size = 32 := by omega
  have bs0 := byteAt_in s 0
  have bs1 := byteAt_in s 31
  have bu1 := byteAt_in u 31
  have hv13 : low / 128 * 128 = 0 ∨ low / 128 * 128 = 128 := by omega
  have x14 := b_xor bs1.1 bs1.2 hv13
  have x20 := b_xor bu1.1 bu1.2 hv13
  refine ⟨⟨by decide, by omega⟩, fun v5 h5 v6 h6 v7 h7 v8 h8 v9 h9 => ⟨⟨by decide, by decide, by omega⟩, fun v10 h10 => ?_⟩⟩
  subst h5
  rw [b_and248 bs0.1 bs0.2] at h6
  rw [b_and7 hl.1 hl.2] at h7
  rw [h6, h7, b_or bs0.1 bs0.2 (by omega) (by omega)] at h8
  have e8 : 0 ≤ v8 ∧ v8 < 256 := by omega
  have e10 : v10.size = 30 := by rw [h10, ByteArray.size_extract, c']; rfl
  have e9 : v9.size = 1 := by rw [h9]; exact (mk1 e8.1 e8.2).1
  refine ⟨by omega, fun v11 h11 => ⟨⟨by decide, by omega⟩, fun v12 h12 v13 h13 v14 h14 v15 h15 => ?_⟩⟩
  rw [b_and128 hl.1 hl.2] at h13
  subst h12
  rw [h13] at h14
  rw [← h14] at x14
  have e11 : v11.size = 31 := by rw [h11, ByteArray.size_append, e9, e10]
  have e15 : v15.size = 1 := by rw [h15]; exact (mk1 x14.2.1 x14.2.2).1
  refine ⟨by omega, fun v16 h16 => ⟨⟨by decide, by decide, by omega⟩, fun v17 h17 => ⟨⟨by decide, by omega⟩, fun v18 h18 v19 h19 v20 h20 v21 h21 => ?_⟩⟩⟩
  rw [b_and128 hl.1 hl.2] at h19
  subst h18
  rw [h19] at h20
  rw [← h20] at x20
  have e17 : v17.size = 31 := by rw [h17, ByteArray.size_extract, d']; rfl
  have e21 : v21.size = 1 := by rw [h21]; exact (mk1 x20.2.1 x20.2.2).1
  refine ⟨by omega, fun v22 h22 => ⟨trivial, fun v23 h23 v24 h24 => ⟨trivial, fun v25 h25 v26 h26 => ?_⟩⟩⟩
  have j1 : v16 = (mkBytes [v8] ++ s.extract 1 31) ++ mkBytes [v14] := by rw [h16, h11, h9, h10, h15]
  have j2 : v22 = u.extract 0 31 ++ mkBytes [v20] := by rw [h22, h17, h21]
  obtain ⟨p1, p2, p3, p4⟩ := ends c' e8 ⟨x14.2.1, x14.2.2⟩
  obtain ⟨r1, r2, r3, r4⟩ := ends2 d' ⟨x20.2.1, x20.2.2⟩
  rw [← j1] at p1 p2 p3 p4
  rw [← j2] at r1 r2 r3 r4
  have kc : cvF v16 = cvF s := cv_same p1 c p2 (by rw [p3]; omega) (by rw [p4]; exact x14.1)
  have ko : coF v22 = coF u := co_same r1 d r2 r3 (by rw [r4]; exact x20.1)
  have kr : v23 = v25 := by rw [h23, h25]; exact raw_same c p1 d r1 kc.symm ko.symm
  have z24 : v24 = 0 := h24.trans (raw_yes c d).2
  have z26 : v26 = 0 := h26.trans (raw_yes p1 r1).2
  intro v27 h27
  have e27 : v27 = false := by rw [h27, ba_eq, decide_eq_true kr]; rfl
  subst e27
  refine ⟨fun _ => rbN (fun _ => brN (fun z => absurd z26 z) fun _ => ?_) fun z => absurd z24 z, fun z => absurd z (by decide)⟩
  refine ⟨trivial, fun v30 h30 v31 h31 v32 h32 => ?_⟩
  rw [and_low_u64 (limb_in ..) 63 9223372036854775807 9223372036854775808] at h32
  have l3 := limb_in v30 3
  refine rb (fun c33 => rbN (fun c34 => rbN (fun c35 => brN (fun _ => ⟨trivial, rfl⟩) fun c36 => ?_) fun _ => ⟨trivial, rfl⟩) fun _ => ⟨trivial, rfl⟩) fun _ => ⟨trivial, rfl⟩
  obtain ⟨q0, q1, q2, q3⟩ := m5
  refine ⟨⟨limb_in .., limb_in .., limb_in .., by unfold U64; omega, q0, q1, q2, q3⟩, fun v37 h37 v38 h38 => ⟨⟨limb_in .., limb_in .., limb_in .., limb_in ..⟩, fun v39 h39 => ⟨trivial, fun v40 h40 v41 h41 => ?_⟩⟩⟩
  have cv := co_val v30
  rw [← h32] at cv
  rw [cv] at h37
  have l0 := limb_in v30 0
  have small : v30 % 57896044618658097711785492504343953926634992332820282019728792003956564819968 < 19 := by
    rw [← cv, c34, c35, c36]; unfold val4; omega
  have nn := Int.emod_nonneg v30 (show (57896044618658097711785492504343953926634992332820282019728792003956564819968 : Int) ≠ 0 by decide)
  have eu : coF u = v30 % 57896044618658097711785492504343953926634992332820282019728792003956564819968 := by
    unfold coF
    rw [if_pos d, ← h30]
    exact Int.emod_eq_of_lt nn (by omega)
  rw [val4_limb' (x := v37) (by omega) (by omega)] at h39
  have e39 : coF v39 = coF u := by
    rw [h39, eu]
    unfold coF
    rw [if_pos (little_size _), leF_little (by omega) (by omega), h37]
    omega
  have s39 : (v39.size : Int) = 32 := by rw [h39]; exact little_size _
  exact bTF (by rw [h40, h23]; exact raw_same c c s39 d rfl e39) (eTF (by rw [h41]; exact (raw_yes c s39).2) ⟨trivial, rfl⟩)
theorem walkXdhBits (s : ByteArray) (u : ByteArray) (low : Int) (w0 : World) (hs : s.size ≤ 140737488351232) (hu : u.size ≤ 140737488351232) (hlow : (Lit.int .u8 low).wf = true) : Calls Try.prog 9 #[.string s, .string u, .int .u8 low] w0 fun e w' => e = .returned (.bool true) ∧ Below w0.heap.size w0 w' :=
  law_tie (G := GC Try.prog xd9Spec w0) (gok w0 namesOk_ mixed_ xd9_ok) (n := 40) (f := 9) (args := [.str (.sym s), .str (.sym u), .int .u8 (.sym low)]) (by kernel_rfl) (VCXdhBits s u low) (tieXdhBits w0 s u low) (pureXdhBits s u low ⟨hs, hu, wf_u8 hlow⟩)

end Go.Proofs.Ytaaobpalpcdlbaa.Bits
