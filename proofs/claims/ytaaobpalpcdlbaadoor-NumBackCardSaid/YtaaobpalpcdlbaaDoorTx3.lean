import Derived.Test.YtaaobpalpcdlbaaDoorSxR
import Derived.Test.YtaaobpalpcdlbaaDoorProg
import Derived.Test.YtaaobpalpcdlbaaDoorTx2
import Derived.KernelRfl
namespace Go.Proofs.YtaaobpalpcdlbaaDoor.Bits
open Go Go.Sx Go.RowKit
set_option linter.unusedVariables false
set_option linter.unusedSimpArgs false
set_option maxRecDepth 100000
def textF (n : Int) : ByteArray := fbytes (fun i => hexD (n / 16 ^ (63 - i).toNat % 16)) 64
def tx3Spec : List (FuncId × CSpec) := [(55, repSpec), (77, noEscSpec)]
theorem tx3_ok : SpecsOk Tryd.prog tx3Spec := ⟨rep_ok, noEsc_ok, trivial⟩
def tx3wSpec : List (FuncId × WSpec) := [(53, fmtSpec)]
theorem tx3w_ok : SpecsOkW Tryd.prog tx3wSpec := ⟨fmt_ok, trivial⟩
--@PLAIN
theorem fb_size (f : Int → Int) (n : Int) : (fbytes f n).size = n.toNat := by
  show ((List.range n.toNat).map fun (i : Nat) => UInt8.ofNat (f (i : Int)).toNat).toArray.size = _
  simp
theorem fb_at (f : Int → Int) (n : Int) (j : Nat) (hj : (j : Int) < n) (h : 0 ≤ f j ∧ f j < 256) : byteAt (fbytes f n) (j : Int) = f j := by
  unfold byteAt fbytes
  simp only [Int.toNat_natCast]
  rw [List.getElem?_map, List.getElem?_range (by omega)]
  simp only [Option.map_some, Option.getD_some]
  have e : (UInt8.ofNat (f (j : Int)).toNat).toNat = (f (j : Int)).toNat := by
    rw [UInt8.toNat_ofNat']; omega
  rw [e]; omega
theorem hexD_in {d : Int} (h0 : 0 ≤ d) (h1 : d < 16) : 0 ≤ hexD d ∧ hexD d < 256 := by unfold hexD; split <;> omega
theorem nD_in : ∀ (n : Nat) (x : Int), 0 ≤ x → x < 16 ^ n → 0 < n → 1 ≤ nD n x ∧ nD n x ≤ n ∧ x < 16 ^ nD n x
  | 0, _, _, _, h => by omega
  | n + 1, x, h0, h1, _ => by
    simp only [nD]
    split
    · rename_i h; exact ⟨by omega, by omega, by simpa using h⟩
    · rename_i h
      have hn : 0 < n := by
        rcases Nat.eq_zero_or_pos n with e | e
        · subst e; simp at h1; omega
        · exact e
      have h2 : x / 16 < 16 ^ n := by rw [Int.pow_succ] at h1; omega
      obtain ⟨a, b, c⟩ := nD_in n (x / 16) (by omega) h2 hn
      refine ⟨by omega, by omega, ?_⟩
      rw [Int.pow_succ]; omega
theorem bA' (s : ByteArray) (i : Nat) : byteAt s (i : Int) = ((s.data[i]?).getD 0).toNat := by
  unfold byteAt; rw [Int.toNat_natCast, Array.getElem?_toList]
theorem wordT {x : Int} (hx : U64 x) : 1 ≤ ((hexF x).size : Int) ∧ ((hexF x).size : Int) ≤ 16 ∧ (zerosF (16 - ((hexF x).size : Int)) ++ hexF x).size = 16 ∧
    ∀ j : Int, 0 ≤ j → j < 16 → byteAt (zerosF (16 - ((hexF x).size : Int)) ++ hexF x) j = hexD (x / 16 ^ (15 - j).toNat % 16) := by
  unfold U64 at hx
  have p16 : (16 : Int) ^ 16 = 18446744073709551616 := by decide +kernel
  obtain ⟨a, b, c⟩ := nD_in 16 x hx.1 (by omega) (by omega)
  have e : (hexF x).size = nD 16 x := by unfold hexF; rw [fb_size]; rfl
  have ez : (zerosF (16 - ((hexF x).size : Int))).size = 16 - nD 16 x := by unfold zerosF; rw [fb_size, e]; omega
  refine ⟨by omega, by omega, by rw [ByteArray.size_append, ez, e]; omega, fun j j0 j1 => ?_⟩
  obtain ⟨J, rfl⟩ := Int.eq_ofNat_of_zero_le j0
  rw [bA', ByteArray.data_append]
  by_cases h : J < 16 - nD 16 x
  · rw [Array.getElem?_append_left (by show J < (zerosF (16 - ((hexF x).size : Int))).size; omega), ← bA']
    unfold zerosF
    rw [fb_at _ _ J (by rw [e]; omega) (by decide)]
    have p : (16 : Int) ^ nD 16 x ≤ 16 ^ (15 - (J : Int)).toNat := by
      have : (16 : Nat) ^ nD 16 x ≤ 16 ^ (15 - (J : Int)).toNat := Nat.pow_le_pow_right (by omega) (by omega)
      exact_mod_cast this
    rw [Int.ediv_eq_zero_of_lt hx.1 (by omega)]
    rfl
  · rw [Array.getElem?_append_right (by show (zerosF (16 - ((hexF x).size : Int))).size ≤ J; omega)]
    have ed : (zerosF (16 - ((hexF x).size : Int))).data.size = 16 - nD 16 x := ez
    rw [ed, ← bA']
    have m : 0 ≤ x / 16 ^ (ndF x - 1 - ((J - (16 - nD 16 x) : Nat) : Int)).toNat % 16 ∧ x / 16 ^ (ndF x - 1 - ((J - (16 - nD 16 x) : Nat) : Int)).toNat % 16 < 16 := by omega
    have nf : ndF x = nD 16 x := rfl
    unfold hexF
    rw [fb_at (fun i => hexD (x / 16 ^ (ndF x - 1 - i).toNat % 16)) (ndF x) (J - (16 - nD 16 x)) (by rw [nf]; omega) (hexD_in m.1 m.2)]
    rw [show (ndF x - 1 - ((J - (16 - nD 16 x) : Nat) : Int)).toNat = (15 - (J : Int)).toNat by rw [nf]; omega]
theorem dig_low {H L : Int} {k : Nat} (hk : k < 16) : (H * 18446744073709551616 + L) / 16 ^ k % 16 = L / 16 ^ k % 16 := by
  have p : (18446744073709551616 : Int) = 16 ^ (15 - k) * 16 * 16 ^ k := by
    rw [← Int.pow_succ, ← Int.pow_add, show 15 - k + 1 + k = 16 by omega]; decide +kernel
  rw [p, ← Int.mul_assoc, Int.add_comm, Int.add_mul_ediv_right _ _ (Int.ne_of_gt (Int.pow_pos (by omega))), ← Int.mul_assoc, Int.add_mul_emod_self_right]
theorem dig_at (n : Int) (a k : Nat) : n / 16 ^ (a + k) = n / 16 ^ a / 16 ^ k := by
  rw [Int.pow_add, Int.ediv_ediv_of_nonneg (Int.le_of_lt (Int.pow_pos (by omega)))]
def textSpec : WSpec := fun w0 args k => match args, k with
  | [.agg [.int .u64 n0, .int .u64 n1, .int .u64 n2, .int .u64 n3]], k => ((U64 n0.val) ∧ (U64 n1.val) ∧ (U64 n2.val) ∧ (U64 n3.val) ∧ (tabW w0)) ∧ (∀ r0 : ByteArray, r0 = (textF (val4 n0.val n1.val n2.val n3.val)) → k (.str (.sym r0)))
  | _, _ => False
def VCText (w0 : World) (n0 : Int) (n1 : Int) (n2 : Int) (n3 : Int) : Prop :=
  (U64 n3 /\ tabW w0) /\ ∀ (v1 : ByteArray), v1 = hexF n3 -> ∀ (v2 : Int), v2 = ↑v1.size -> ∀ v3, v3 = IntKind.i64.wrap ((16 : Int) - v2) -> (bytesL [48] = bytesL [48] /\ (0 : Int) ≤ v3 /\ v3 ≤ (16 : Int)) /\ ∀ (v4 : ByteArray), v4 = zerosF v3 -> ↑(v4.size + v1.size) ≤ (9223372036854775807 : Int) /\ ∀ (v5 : ByteArray), v5 = v4 ++ v1 -> ((0 : Int) < ↑v5.size /\ ↑v5.size * (1 : Int) ≤ (140737488355328 : Int) /\ ↑v5.size ≤ (140737488355328 : Int)) /\ ∀ (v6 : Int), v6 = ↑v5.size -> ∀ (v7 : Int), v7 = ↑v5.size -> (U64 n2 /\ tabW w0) /\ ∀ (v8 : ByteArray), v8 = hexF n2 -> ∀ (v9 : Int), v9 = ↑v8.size -> ∀ v10, v10 = IntKind.i64.wrap ((16 : Int) - v9) -> (bytesL [48] = bytesL [48] /\ (0 : Int) ≤ v10 /\ v10 ≤ (16 : Int)) /\ ∀ (v11 : ByteArray), v11 = zerosF v10 -> ↑(v11.size + v8.size) ≤ (9223372036854775807 : Int) /\ ∀ (v12 : ByteArray), v12 = v11 ++ v8 -> (v6 = v6 /\ (v6 + ↑v12.size) * (1 : Int) ≤ (140737488355328 : Int) /\ v6 + ↑v12.size ≤ (140737488355328 : Int)) /\ ∀ v13, v13 = v6 + ↑v12.size -> ∀ (v14 : Int), v14 = ↑v12.size -> (U64 n1 /\ tabW w0) /\ ∀ (v15 : ByteArray), v15 = hexF n1 -> ∀ (v16 : Int), v16 = ↑v15.size -> ∀ v17, v17 = IntKind.i64.wrap ((16 : Int) - v16) -> (bytesL [48] = bytesL [48] /\ (0 : Int) ≤ v17 /\ v17 ≤ (16 : Int)) /\ ∀ (v18 : ByteArray), v18 = zerosF v17 -> ↑(v18.size + v15.size) ≤ (9223372036854775807 : Int) /\ ∀ (v19 : ByteArray), v19 = v18 ++ v15 -> (v13 = v13 /\ (v13 + ↑v19.size) * (1 : Int) ≤ (140737488355328 : Int) /\ v13 + ↑v19.size ≤ (140737488355328 : Int)) /\ ∀ v20, v20 = v13 + ↑v19.size -> ∀ (v21 : Int), v21 = ↑v19.size -> (U64 n0 /\ tabW w0) /\ ∀ (v22 : ByteArray), v22 = hexF n0 -> ∀ (v23 : Int), v23 = ↑v22.size -> ∀ v24, v24 = IntKind.i64.wrap ((16 : Int) - v23) -> (bytesL [48] = bytesL [48] /\ (0 : Int) ≤ v24 /\ v24 ≤ (16 : Int)) /\ ∀ (v25 : ByteArray), v25 = zerosF v24 -> ↑(v25.size + v22.size) ≤ (9223372036854775807 : Int) /\ ∀ (v26 : ByteArray), v26 = v25 ++ v22 -> (v20 = v20 /\ (v20 + ↑v26.size) * (1 : Int) ≤ (140737488355328 : Int) /\ v20 + ↑v26.size ≤ (140737488355328 : Int)) /\ ∀ v27, v27 = v20 + ↑v26.size -> ∀ (v28 : Int), v28 = ↑v26.size -> ((0 : Int) < v27 /\ v27 ≤ v27) /\ (0 : Int) ≤ v27 /\ ((0 : Int) < v27 /\ v27 ≤ v27 /\ v27 ≤ (140737488355328 : Int)) /\ ∀ (v29 : ByteArray), v29 = fbytes (catF (catF (catF (byteAt v5) v6 v12) v13 v19) v20 v26) v27 -> v29 = textF (val4 n0 n1 n2 n3)
theorem tieText (w0 : World) (n0 : Int) (n1 : Int) (n2 : Int) (n3 : Int) : VCText w0 n0 n1 n2 n3 = ((recN (GW Tryd.prog tx3Spec tx3wSpec [] [] [] [] w0) 60).call 29 [.agg [.int .u64 (.sym n0), .int .u64 (.sym n1), .int .u64 (.sym n2), .int .u64 (.sym n3)]] [] (fun r__ _ => eqV r__ (.str (.sym (textF (val4 n0 n1 n2 n3)))))) := by kernel_rfl
theorem pureText (w0 w : World) (hb : Below w0.heap.size w0 w) (n0 n1 n2 n3 : Int) (h : U64 n0 ∧ U64 n1 ∧ U64 n2 ∧ U64 n3 ∧ tabW w0) : VCText w n0 n1 n2 n3 := by
  obtain ⟨h0, h1, h2, h3, ht⟩ := h
  have ht2 : tabW w := below_cell hb ht
  obtain ⟨a3, b3, s3, t3⟩ := wordT h3
  obtain ⟨a2, b2, s2, t2⟩ := wordT h2
  obtain ⟨a1, b1, s1, t1⟩ := wordT h1
  obtain ⟨a0, b0, s0, t0⟩ := wordT h0
  unfold VCText
  simp only [forall_eq]
  have w3 : IntKind.i64.wrap (16 - ((hexF n3).size : Int)) = 16 - ((hexF n3).size : Int) := i64_id (by omega) (by omega)
  have w2 : IntKind.i64.wrap (16 - ((hexF n2).size : Int)) = 16 - ((hexF n2).size : Int) := i64_id (by omega) (by omega)
  have w1 : IntKind.i64.wrap (16 - ((hexF n1).size : Int)) = 16 - ((hexF n1).size : Int) := i64_id (by omega) (by omega)
  have w0x : IntKind.i64.wrap (16 - ((hexF n0).size : Int)) = 16 - ((hexF n0).size : Int) := i64_id (by omega) (by omega)
  rw [w3, w2, w1, w0x]
  have z3 : (zerosF (16 - ((hexF n3).size : Int))).size + (hexF n3).size = 16 := by rw [← ByteArray.size_append]; exact s3
  have z2 : (zerosF (16 - ((hexF n2).size : Int))).size + (hexF n2).size = 16 := by rw [← ByteArray.size_append]; exact s2
  have z1 : (zerosF (16 - ((hexF n1).size : Int))).size + (hexF n1).size = 16 := by rw [← ByteArray.size_append]; exact s1
  have z0 : (zerosF (16 - ((hexF n0).size : Int))).size + (hexF n0).size = 16 := by rw [← ByteArray.size_append]; exact s0
  rw [s3, s2, s1, s0, z3, z2, z1, z0]
  refine ⟨⟨h3, ht2⟩, ⟨trivial, by omega, by omega⟩, by omega, ⟨by omega, by omega, by omega⟩, ⟨h2, ht2⟩, ⟨trivial, by omega, by omega⟩, by omega, ⟨trivial, by omega, by omega⟩, ⟨h1, ht2⟩, ⟨trivial, by omega, by omega⟩, by omega, ⟨trivial, by omega, by omega⟩, ⟨h0, ht2⟩, ⟨trivial, by omega, by omega⟩, by omega, ⟨trivial, by omega, by omega⟩, ⟨by omega, by omega⟩, by omega, ⟨by omega, by omega, by omega⟩, ?_⟩
  have p16 : (16 : Int) ^ 16 = 18446744073709551616 := by decide +kernel
  have p32 : (16 : Int) ^ 32 = 340282366920938463463374607431768211456 := by decide +kernel
  have p48 : (16 : Int) ^ 48 = 6277101735386680763835789423207666416102355444464034512896 := by decide +kernel
  have q3 : val4 n0 n1 n2 n3 / 16 ^ 48 = n3 := by rw [p48]; unfold U64 at h0 h1 h2 h3; unfold val4; omega
  have q2 : val4 n0 n1 n2 n3 / 16 ^ 32 = n3 * 18446744073709551616 + n2 := by rw [p32]; unfold U64 at h0 h1 h2 h3; unfold val4; omega
  have q1 : val4 n0 n1 n2 n3 / 16 ^ 16 = (n3 * 18446744073709551616 + n2) * 18446744073709551616 + n1 := by rw [p16]; unfold U64 at h0 h1 h2 h3; unfold val4; omega
  have q0 : val4 n0 n1 n2 n3 = ((n3 * 18446744073709551616 + n2) * 18446744073709551616 + n1) * 18446744073709551616 + n0 := by unfold val4; omega
  generalize val4 n0 n1 n2 n3 = V at *
  unfold textF fbytes
  congr 2
  apply List.map_congr_left
  intro a ha
  have ha : a < 64 := List.mem_range.1 ha
  have key : ∀ (S3 S2 S1 S0 : ByteArray), (∀ j : Int, 0 ≤ j → j < 16 → byteAt S3 j = hexD (n3 / 16 ^ (15 - j).toNat % 16)) → (∀ j : Int, 0 ≤ j → j < 16 → byteAt S2 j = hexD (n2 / 16 ^ (15 - j).toNat % 16)) → (∀ j : Int, 0 ≤ j → j < 16 → byteAt S1 j = hexD (n1 / 16 ^ (15 - j).toNat % 16)) → (∀ j : Int, 0 ≤ j → j < 16 → byteAt S0 j = hexD (n0 / 16 ^ (15 - j).toNat % 16)) →
      catF (catF (catF (byteAt S3) ((16 : Nat) : Int) S2) (((16 : Nat) : Int) + ((16 : Nat) : Int)) S1) (((16 : Nat) : Int) + ((16 : Nat) : Int) + ((16 : Nat) : Int)) S0 (a : Int) = hexD (V / 16 ^ (63 - (a : Int)).toNat % 16) := by
    intro S3 S2 S1 S0 k3 k2 k1 k0
    unfold catF
    by_cases c3 : a < 48
    · rw [if_pos (by omega)]
      by_cases c2 : a < 32
      · rw [if_pos (by omega)]
        by_cases c1 : a < 16
        · rw [if_pos (by omega), k3 _ (by omega) (by omega), show (63 - (a : Int)).toNat = 48 + (15 - (a : Int)).toNat by omega, dig_at, q3]
        · rw [if_neg (by omega), k2 _ (by omega) (by omega), show (63 - (a : Int)).toNat = 32 + (15 - ((a : Int) - ((16 : Nat) : Int))).toNat by omega, dig_at, q2, dig_low (by omega)]
      · rw [if_neg (by omega), k1 _ (by omega) (by omega), show (63 - (a : Int)).toNat = 16 + (15 - ((a : Int) - (((16 : Nat) : Int) + ((16 : Nat) : Int)))).toNat by omega, dig_at, q1, dig_low (by omega)]
    · rw [if_neg (by omega), k0 _ (by omega) (by omega), show (63 - (a : Int)).toNat = (15 - ((a : Int) - (((16 : Nat) : Int) + ((16 : Nat) : Int) + ((16 : Nat) : Int)))).toNat by omega, q0, dig_low (by omega)]
  have k := key _ _ _ _ t3 t2 t1 t0
  show UInt8.ofNat (catF _ _ _ (a : Int)).toNat = UInt8.ofNat (hexD (V / 16 ^ (63 - (a : Int)).toNat % 16)).toNat
  rw [← k]
theorem text_ok : SpecOkW Tryd.prog 29 textSpec := by
  intro w0 args k h
  unfold textSpec at h
  split at h
  · rename_i n0 n1 n2 n3
    obtain ⟨hr, h⟩ := h
    exact ⟨_, h _ rfl, PureOkAt.of_tie (GW Tryd.prog tx3Spec tx3wSpec [] [] [] []) (fun w__ => gokW w__ namesOk_ mixed_ tx3_ok tx3w_ok) (fun _ => rfl) (fun _ => rfl) (args' := [.agg [.int .u64 (.sym n0.val), .int .u64 (.sym n1.val), .int .u64 (.sym n2.val), .int .u64 (.sym n3.val)]]) ⟨⟨⟨rfl, rfl⟩, ⟨rfl, rfl⟩, ⟨rfl, rfl⟩, ⟨rfl, rfl⟩, trivial⟩, trivial⟩ 60 (fun w__ => VCText w__ n0.val n1.val n2.val n3.val) (fun w__ => tieText w__ n0.val n1.val n2.val n3.val) (fun w__ hb__ => pureText w0 w__ hb__ n0.val n1.val n2.val n3.val hr)⟩
  · exact h.elim

end Go.Proofs.YtaaobpalpcdlbaaDoor.Bits
