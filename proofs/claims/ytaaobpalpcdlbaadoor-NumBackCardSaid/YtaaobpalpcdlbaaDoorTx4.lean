import Derived.Test.YtaaobpalpcdlbaaDoorSxR
import Derived.Test.YtaaobpalpcdlbaaDoorProg
import Derived.Test.YtaaobpalpcdlbaaDoorTx3
import Derived.Test.YtaaobpalpcdlbaaDoorByt
import Derived.KernelRfl
namespace Go.Proofs.YtaaobpalpcdlbaaDoor.Bits
open Go Go.Sx Go.RowKit
set_option linter.unusedVariables false
set_option linter.unusedSimpArgs false
set_option maxRecDepth 100000
def rtR (V i : Int) (s : ByteArray) : Prop := (0 ≤ i ∧ i ≤ 32) ∧ (s.size : Int) = 2 * i ∧ ∀ j : Int, 0 ≤ j → j < 2 * i → byteAt s j = hexD (V / 16 ^ (63 - j).toNat % 16)
def rtASpec : St → Inv := fun S =>
  { ι := Int × ByteArray
    T := fun p => stS (keepS S [1, 2, 3]) [(4, .str (.sym p.2)), (5, .int .i64 (.sym p.1))]
    R := fun p => rtR (val4 (hat S 0 0) (hat S 0 1) (hat S 0 2) (hat S 0 3)) p.1 p.2
    μ := fun p => (32 - p.1).toNat }
def rtAnnSpec : Anns := [(30, 0, rtASpec)]
def rtCutSpec : Anns := []
def tx4Spec : List (FuncId × CSpec) := [(32, rBigSpec)]
theorem tx4_ok : SpecsOk Tryd.prog tx4Spec := ⟨rBig_ok, trivial⟩
--@PLAIN
theorem dig1 {d e : Int} (h0 : 0 ≤ d) (h1 : d < 16) (he : e = d + 1) : ((bytesL [48, 49, 50, 51, 52, 53, 54, 55, 56, 57, 97, 98, 99, 100, 101, 102]).extract d.toNat e.toNat).size = 1 ∧ byteAt ((bytesL [48, 49, 50, 51, 52, 53, 54, 55, 56, 57, 97, 98, 99, 100, 101, 102]).extract d.toNat e.toNat) 0 = hexD d := by
  subst he
  have h : d = 0 ∨ d = 1 ∨ d = 2 ∨ d = 3 ∨ d = 4 ∨ d = 5 ∨ d = 6 ∨ d = 7 ∨ d = 8 ∨ d = 9 ∨ d = 10 ∨ d = 11 ∨ d = 12 ∨ d = 13 ∨ d = 14 ∨ d = 15 := by omega
  rcases h with h | h | h | h | h | h | h | h | h | h | h | h | h | h | h | h <;> subst h <;> decide +kernel
theorem big_at {V i : Int} (h0 : 0 ≤ i) (h1 : i < 32) : byteAt (bigF V) i = V / 256 ^ (31 - i).toNat % 256 := by
  obtain ⟨I, rfl⟩ := Int.eq_ofNat_of_zero_le h0
  have sz := little_size V
  unfold bigF
  rw [revF_at _ (by omega), byteAt_little (31 - (I : Int)).toNat (by omega) (by omega)]
theorem p256 (V : Int) (k : Nat) : V / 256 ^ k = V / 16 ^ (2 * k) := by
  rw [Int.pow_mul]; rfl
def rTextSpec : CSpec
  | [.agg [.int .u64 n0, .int .u64 n1, .int .u64 n2, .int .u64 n3]], k => ((U64 n0.val) ∧ (U64 n1.val) ∧ (U64 n2.val) ∧ (U64 n3.val)) ∧ (∀ r0 : ByteArray, r0 = (textF (val4 n0.val n1.val n2.val n3.val)) → k (.str (.sym r0)))
  | _, _ => False
def VCRText (n0 : Int) (n1 : Int) (n2 : Int) (n3 : Int) : Prop :=
  (U64 n0 /\ U64 n1 /\ U64 n2 /\ U64 n3) /\ ∀ (v1 : ByteArray), v1 = bigF (val4 n0 n1 n2 n3) -> (∃ (x2 : Int × ByteArray), rtR (val4 n0 n1 n2 n3) x2.fst x2.snd /\ (True /\ bytesL [] = bytesL [] /\ v1 = v1 /\ bytesL [] = x2.snd /\ (0 : Int) = x2.fst /\ True) /\ (n0 = n0 /\ n1 = n1 /\ n2 = n2 /\ n3 = n3 /\ True) /\ True) /\ ∀ (v3 : Int × ByteArray), rtR (val4 n0 n1 n2 n3) v3.fst v3.snd -> ∀ (v4 : Int), v4 = ↑v1.size -> ∀ v5, v5 = decide (v3.fst < v4) -> (v5 = true -> ((0 : Int) ≤ v3.fst /\ v3.fst < ↑v1.size) /\ ∀ v6, v6 = byteAt v1 v3.fst -> ∀ v7, v7 = IntKind.u8.wrap (v6.tdiv (16 : Int)) -> ((0 : Int) ≤ v3.fst /\ v3.fst < ↑v1.size) /\ ∀ v8, v8 = byteAt v1 v3.fst -> ∀ v9, v9 = IntKind.u8.wrap (v8.tdiv (16 : Int)) -> ∀ v10, v10 = IntKind.u8.wrap (v9 + (1 : Int)) -> ((0 : Int) ≤ v7 /\ v7 ≤ v10 /\ v10 ≤ (16 : Int)) /\ ∀ (v11 : ByteArray), v11 = (bytesL [48, 49, 50, 51, 52, 53, 54, 55, 56, 57, 97, 98, 99, 100, 101, 102]).extract v7.toNat v10.toNat -> ↑(v3.snd.size + v11.size) ≤ (9223372036854775807 : Int) /\ ∀ (v12 : ByteArray), v12 = v3.snd ++ v11 -> ((0 : Int) ≤ v3.fst /\ v3.fst < ↑v1.size) /\ ∀ v13, v13 = byteAt v1 v3.fst -> ∀ v14, v14 = v13.tmod (16 : Int) -> ((0 : Int) ≤ v3.fst /\ v3.fst < ↑v1.size) /\ ∀ v15, v15 = byteAt v1 v3.fst -> ∀ v16, v16 = v15.tmod (16 : Int) -> ∀ v17, v17 = IntKind.u8.wrap (v16 + (1 : Int)) -> ((0 : Int) ≤ v14 /\ v14 ≤ v17 /\ v17 ≤ (16 : Int)) /\ ∀ (v18 : ByteArray), v18 = (bytesL [48, 49, 50, 51, 52, 53, 54, 55, 56, 57, 97, 98, 99, 100, 101, 102]).extract v14.toNat v17.toNat -> ↑(v12.size + v18.size) ≤ (9223372036854775807 : Int) /\ ∀ (v19 : ByteArray), v19 = v12 ++ v18 -> ∀ v20, v20 = IntKind.i64.wrap (v3.fst + (1 : Int)) -> ∃ (x21 : Int × ByteArray), rtR (val4 n0 n1 n2 n3) x21.fst x21.snd /\ ((True /\ bytesL [] = bytesL [] /\ v1 = v1 /\ v19 = x21.snd /\ v20 = x21.fst /\ True) /\ (n0 = n0 /\ n1 = n1 /\ n2 = n2 /\ n3 = n3 /\ True) /\ True) /\ ((32 : Int) - x21.fst).toNat < ((32 : Int) - v3.fst).toNat) /\ (v5 = false -> v3.snd = textF (val4 n0 n1 n2 n3))
theorem tieRText (w0 : World) (n0 : Int) (n1 : Int) (n2 : Int) (n3 : Int) : VCRText n0 n1 n2 n3 = ((recN (GL Tryd.prog tx4Spec rtAnnSpec rtCutSpec w0) 40).call 30 [.agg [.int .u64 (.sym n0), .int .u64 (.sym n1), .int .u64 (.sym n2), .int .u64 (.sym n3)]] [] (fun r__ _ => eqV r__ (.str (.sym (textF (val4 n0 n1 n2 n3)))))) := by kernel_rfl
theorem pureRText (n0 n1 n2 n3 : Int) (h : U64 n0 ∧ U64 n1 ∧ U64 n2 ∧ U64 n3) : VCRText n0 n1 n2 n3 := by
  refine ⟨h, fun v1 h1 => ⟨⟨(0, bytesL []), ⟨⟨by decide, by decide⟩, rfl, fun j j0 j1 => absurd j1 (by dsimp only; omega)⟩, by simp, by simp, trivial⟩, ?_⟩⟩
  generalize val4 n0 n1 n2 n3 = V at *
  have hsz : (v1.size : Int) = 32 := by rw [h1]; exact big_size _
  rintro ⟨i, s⟩ ⟨⟨i0, i1⟩, hs, hd⟩
  dsimp only at i0 i1 hs hd ⊢
  intro v4 h4
  refine br (fun c => ?_) (fun c => ?_)
  · have hb : byteAt v1 i = V / 256 ^ (31 - i).toNat % 256 := by rw [h1]; exact big_at i0 (by omega)
    have b0 : 0 ≤ byteAt v1 i ∧ byteAt v1 i < 256 := by rw [hb]; omega
    generalize byteAt v1 i = b at *
    have ix : 0 ≤ i ∧ i < (v1.size : Int) := by omega
    refine ⟨ix, fun v6 h6 v7 h7 => ⟨ix, fun v8 h8 v9 h9 v10 h10 => ?_⟩⟩
    rw [h6, Int.tdiv_eq_ediv_of_nonneg b0.1, w_u8] at h7
    rw [h8, Int.tdiv_eq_ediv_of_nonneg b0.1, w_u8] at h9
    rw [w_u8] at h10
    have e7 : v7 = b / 16 := by omega
    obtain ⟨g1, g2⟩ := dig1 (d := v7) (e := v10) (by omega) (by omega) (by omega)
    refine ⟨⟨by omega, by omega, by omega⟩, fun v11 h11 => ?_⟩
    rw [← h11] at g1 g2
    refine ⟨by omega, fun v12 h12 => ⟨ix, fun v13 h13 v14 h14 => ⟨ix, fun v15 h15 v16 h16 v17 h17 => ?_⟩⟩⟩
    rw [h13, Int.tmod_eq_emod_of_nonneg b0.1] at h14
    rw [h15, Int.tmod_eq_emod_of_nonneg b0.1] at h16
    rw [w_u8] at h17
    obtain ⟨k1, k2⟩ := dig1 (d := v14) (e := v17) (by omega) (by omega) (by omega)
    refine ⟨⟨by omega, by omega, by omega⟩, fun v18 h18 => ?_⟩
    rw [← h18] at k1 k2
    have s12 : v12.size = s.size + 1 := by rw [h12, ByteArray.size_append, g1]
    refine ⟨by omega, fun v19 h19 v20 h20 => ⟨(i + 1, v19), ⟨⟨by dsimp only; omega, by dsimp only; omega⟩, ?_, fun j j0 j1 => ?_⟩, ?_, by dsimp only; omega⟩⟩
    · dsimp only; rw [h19, ByteArray.size_append, k1, s12]; omega
    · dsimp only at j0 j1 ⊢
      obtain ⟨J, rfl⟩ := Int.eq_ofNat_of_zero_le j0
      have d1 : V / 16 ^ (63 - 2 * i).toNat % 16 = v7 := by
        rw [e7, hb, p256, show (63 - 2 * i).toNat = 2 * (31 - i).toNat + 1 by omega, dig_at, Int.pow_one]; omega
      have d2 : V / 16 ^ (63 - (2 * i + 1)).toNat % 16 = v14 := by
        rw [h14, hb, p256, show (63 - (2 * i + 1)).toNat = 2 * (31 - i).toNat by omega]; omega
      rw [h19]
      by_cases c1 : (J : Int) < 2 * i
      · rw [byteAt_l (by omega), h12, byteAt_l (by omega)]
        exact hd _ (by omega) c1
      · by_cases c2 : (J : Int) = 2 * i
        · rw [byteAt_l (by omega), h12, byteAt_r (by omega), show ((J - s.size : Nat) : Int) = 0 by omega, g2, c2, d1]
        · rw [byteAt_r (by omega), show ((J - v12.size : Nat) : Int) = 0 by omega, k2, show (J : Int) = 2 * i + 1 by omega, d2]
    · rw [i64_id (by omega) (by omega)] at h20
      simp [h20]
  · have e : i = 32 := by omega
    subst e
    have st : (textF V).size = 64 := by unfold textF; rw [fb_size]; rfl
    refine ba_ext (by omega) fun a ha => ?_
    rw [hd _ (by omega) (by omega)]
    have m : 0 ≤ V / 16 ^ (63 - (a : Int)).toNat % 16 ∧ V / 16 ^ (63 - (a : Int)).toNat % 16 < 16 := by omega
    unfold textF
    rw [fb_at (fun i => hexD (V / 16 ^ (63 - i).toNat % 16)) 64 a (by omega) (hexD_in m.1 m.2)]
theorem rText_ok : SpecOk Tryd.prog 30 rTextSpec := by
  intro args k h
  unfold rTextSpec at h
  split at h
  · rename_i n0 n1 n2 n3
    obtain ⟨hr, h⟩ := h
    exact ⟨_, h _ rfl, PureOk.of_tie (GL Tryd.prog tx4Spec rtAnnSpec rtCutSpec) (fun w__ => gokL w__ namesOk_ mixed_ tx4_ok) (fun _ => rfl) (fun _ => rfl) (args' := [.agg [.int .u64 (.sym n0.val), .int .u64 (.sym n1.val), .int .u64 (.sym n2.val), .int .u64 (.sym n3.val)]]) ⟨⟨⟨rfl, rfl⟩, ⟨rfl, rfl⟩, ⟨rfl, rfl⟩, ⟨rfl, rfl⟩, trivial⟩, trivial⟩ 40 (fun w__ => VCRText n0.val n1.val n2.val n3.val) (fun w__ => tieRText w__ n0.val n1.val n2.val n3.val) (fun w__ => pureRText n0.val n1.val n2.val n3.val hr)⟩
  · exact h.elim

end Go.Proofs.YtaaobpalpcdlbaaDoor.Bits
