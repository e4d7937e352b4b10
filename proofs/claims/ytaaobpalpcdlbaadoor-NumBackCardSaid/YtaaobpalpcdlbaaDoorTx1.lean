import Derived.Test.YtaaobpalpcdlbaaDoorSxR
import Derived.Test.YtaaobpalpcdlbaaDoorProg
import Derived.Test.YtaaobpalpcdlbaaDoorNd1
import Derived.KernelRfl
namespace Go.Proofs.YtaaobpalpcdlbaaDoor.Bits
open Go Go.Sx Go.RowKit
set_option linter.unusedVariables false
set_option linter.unusedSimpArgs false
set_option maxRecDepth 100000
def hexD (d : Int) : Int := if d < 10 then 48 + d else 87 + d
def nD : Nat → Int → Nat
  | 0, _ => 0
  | n + 1, x => if x < 16 then 1 else nD n (x / 16) + 1
def ndF (x : Int) : Int := nD 16 x
def hexF (x : Int) : ByteArray := fbytes (fun i => hexD (x / 16 ^ (ndF x - 1 - i).toNat % 16)) (ndF x)
def tabW (w0 : World) : Prop := w0.cell? ⟨5, 15, none⟩ = some (.int .u8 4)
def fbR (x u i : Int) (f : Int → Int) : Prop := 0 ≤ u ∧ (50 ≤ i ∧ i ≤ 65) ∧ u = x / 16 ^ (65 - i).toNat ∧ (i < 65 → 16 ≤ x / 16 ^ (64 - i).toNat) ∧ ∀ j : Int, i ≤ j → j < 65 → f j = hexD (x / 16 ^ (64 - j).toNat % 16)
def fbASpec : St → Inv := fun S =>
  { ι := Int × Int × (Int → Int)
    T := fun p => stS (keepS (setF S 0 65 [.int .u8 p.2.2]) [0, 2, 3, 4, 10, 11, 12, 14, 15, 16]) [(1, .int .u64 (.sym p.1)), (13, .int .i64 (.sym p.2.1))]
    R := fun p => fbR (iat S 1) p.1 p.2.1 p.2.2
    μ := fun p => p.1.toNat }
def fbAnnSpec : Anns := [(76, 0, fbASpec)]
def fbCutSpec : Anns := []
--@PLAIN
theorem below_cell {w0 w : World} (hb : Below w0.heap.size w0 w) {a : Addr} {v : Value} (hv : w0.cell? a = some v) : w.cell? a = some v := by
  have hlt : a.block < w0.heap.size := by
    simp only [World.cell?] at hv
    split at hv
    · rename_i heq; exact (Array.getElem?_eq_some_iff.1 heq).1
    · cases hv
  rw [hb.cell hlt]; exact hv
theorem dig_b {d : Int} (h0 : 0 ≤ d) (h1 : d < 16) : byteAt (bytesL [48, 49, 50, 51, 52, 53, 54, 55, 56, 57, 97, 98, 99, 100, 101, 102, 103, 104, 105, 106, 107, 108, 109, 110, 111, 112, 113, 114, 115, 116, 117, 118, 119, 120, 121, 122]) d = hexD d := by
  have h : d = 0 ∨ d = 1 ∨ d = 2 ∨ d = 3 ∨ d = 4 ∨ d = 5 ∨ d = 6 ∨ d = 7 ∨ d = 8 ∨ d = 9 ∨ d = 10 ∨ d = 11 ∨ d = 12 ∨ d = 13 ∨ d = 14 ∨ d = 15 := by omega
  rcases h with h | h | h | h | h | h | h | h | h | h | h | h | h | h | h | h <;> subst h <;> decide +kernel
theorem div_pow (x : Int) (k : Nat) : x / 16 ^ k / 16 = x / 16 ^ (k + 1) := by
  rw [Int.pow_succ, Int.ediv_ediv_of_nonneg (Int.le_of_lt (Int.pow_pos (by omega)))]
theorem nd_eq : ∀ (n k : Nat) (x : Int), k < n → 0 ≤ x → x / 16 ^ k < 16 → (0 < k → 16 ≤ x / 16 ^ (k - 1)) → nD n x = k + 1
  | 0, k, x, h, _, _, _ => by omega
  | n + 1, 0, x, _, h0, h1, _ => by
    have : x < 16 := by simpa using h1
    simp only [nD, if_pos this]
  | n + 1, k + 1, x, hk, h0, h1, h2 => by
    have h3 : 16 ≤ x / 16 ^ k := h2 (by omega)
    have h4 : x / 16 ^ k ≤ x := by
      have p : (1 : Int) ≤ 16 ^ k := Int.pow_pos (by omega)
      exact Int.ediv_le_self _ h0
    have e : ∀ j : Nat, x / 16 / 16 ^ j = x / 16 ^ (j + 1) := fun j => by
      rw [Int.ediv_ediv_of_nonneg (by omega), Int.pow_succ, Int.mul_comm]
    have ih := nd_eq n k (x / 16) (by omega) (by omega) (by rw [e]; exact h1) (fun kp => by
      rw [e, show k - 1 + 1 = k by omega]; exact h3)
    simp only [nD, if_neg (show ¬ x < 16 by omega), ih]
theorem pow_bd {x : Int} {k : Nat} (h0 : 0 ≤ x) (h1 : x ≤ 18446744073709551615) (h2 : 16 ≤ x / 16 ^ k) : k ≤ 14 := by
  refine Decidable.byContradiction fun c => ?_
  have p : (16 : Int) ^ 15 ≤ 16 ^ k := by
    have : (16 : Nat) ^ 15 ≤ 16 ^ k := Nat.pow_le_pow_right (by omega) (by omega)
    exact_mod_cast this
  have q : x / 16 ^ k < 16 := by
    refine Int.ediv_lt_of_lt_mul (by omega) ?_
    have : (16 : Int) ^ 15 = 1152921504606846976 := by decide +kernel
    omega
  omega
def fmtSpec : WSpec := fun w0 args k => match args, k with
  | [.int .u64 x, .int .i64 (.lit 16)], k => ((U64 x.val) ∧ (tabW w0)) ∧ (∀ r0 : ByteArray, r0 = (hexF x.val) → k (.str (.sym r0)))
  | _, _ => False
def VCFmt (w0 : World) (x : Int) : Prop :=
  ∃ (x1 : Int), (GW Tryd.prog [] [] fbAnnSpec fbCutSpec [] [] w0).w0.cell? { block := 5, off := 15 } = some (Value.int IntKind.u8 x1) /\ ∀ v2, v2 = IntKind.i64.wrap x1 -> ∀ v3, v3 = IntKind.u64.wrap v2 -> (∃ (x4 : Int × Int × (Int -> Int)), fbR x x4.fst x4.snd.fst x4.snd.snd /\ (Value.slice none 0 0 = Value.slice none 0 0 /\ x = x4.fst /\ (16 : Int) = (16 : Int) /\ false = false /\ false = false /\ Value.slice none 0 0 = Value.slice none 0 0 /\ bytesL [] = bytesL [] /\ True /\ (65 : Int) = x4.snd.fst /\ v3 = v3 /\ (16 : Int) = (16 : Int) /\ (15 : Int) = (15 : Int) /\ True) /\ ((65 : Int) * (1 : Int) = (65 : Int) /\ (0 : Int) = x4.snd.snd (0 : Int) /\ (0 : Int) = x4.snd.snd (1 : Int) /\ (0 : Int) = x4.snd.snd (2 : Int) /\ (0 : Int) = x4.snd.snd (3 : Int) /\ (0 : Int) = x4.snd.snd (4 : Int) /\ (0 : Int) = x4.snd.snd (5 : Int) /\ (0 : Int) = x4.snd.snd (6 : Int) /\ (0 : Int) = x4.snd.snd (7 : Int) /\ (0 : Int) = x4.snd.snd (8 : Int) /\ (0 : Int) = x4.snd.snd (9 : Int) /\ (0 : Int) = x4.snd.snd (10 : Int) /\ (0 : Int) = x4.snd.snd (11 : Int) /\ (0 : Int) = x4.snd.snd (12 : Int) /\ (0 : Int) = x4.snd.snd (13 : Int) /\ (0 : Int) = x4.snd.snd (14 : Int) /\ (0 : Int) = x4.snd.snd (15 : Int) /\ (0 : Int) = x4.snd.snd (16 : Int) /\ (0 : Int) = x4.snd.snd (17 : Int) /\ (0 : Int) = x4.snd.snd (18 : Int) /\ (0 : Int) = x4.snd.snd (19 : Int) /\ (0 : Int) = x4.snd.snd (20 : Int) /\ (0 : Int) = x4.snd.snd (21 : Int) /\ (0 : Int) = x4.snd.snd (22 : Int) /\ (0 : Int) = x4.snd.snd (23 : Int) /\ (0 : Int) = x4.snd.snd (24 : Int) /\ (0 : Int) = x4.snd.snd (25 : Int) /\ (0 : Int) = x4.snd.snd (26 : Int) /\ (0 : Int) = x4.snd.snd (27 : Int) /\ (0 : Int) = x4.snd.snd (28 : Int) /\ (0 : Int) = x4.snd.snd (29 : Int) /\ (0 : Int) = x4.snd.snd (30 : Int) /\ (0 : Int) = x4.snd.snd (31 : Int) /\ (0 : Int) = x4.snd.snd (32 : Int) /\ (0 : Int) = x4.snd.snd (33 : Int) /\ (0 : Int) = x4.snd.snd (34 : Int) /\ (0 : Int) = x4.snd.snd (35 : Int) /\ (0 : Int) = x4.snd.snd (36 : Int) /\ (0 : Int) = x4.snd.snd (37 : Int) /\ (0 : Int) = x4.snd.snd (38 : Int) /\ (0 : Int) = x4.snd.snd (39 : Int) /\ (0 : Int) = x4.snd.snd (40 : Int) /\ (0 : Int) = x4.snd.snd (41 : Int) /\ (0 : Int) = x4.snd.snd (42 : Int) /\ (0 : Int) = x4.snd.snd (43 : Int) /\ (0 : Int) = x4.snd.snd (44 : Int) /\ (0 : Int) = x4.snd.snd (45 : Int) /\ (0 : Int) = x4.snd.snd (46 : Int) /\ (0 : Int) = x4.snd.snd (47 : Int) /\ (0 : Int) = x4.snd.snd (48 : Int) /\ (0 : Int) = x4.snd.snd (49 : Int) /\ (0 : Int) = x4.snd.snd (50 : Int) /\ (0 : Int) = x4.snd.snd (51 : Int) /\ (0 : Int) = x4.snd.snd (52 : Int) /\ (0 : Int) = x4.snd.snd (53 : Int) /\ (0 : Int) = x4.snd.snd (54 : Int) /\ (0 : Int) = x4.snd.snd (55 : Int) /\ (0 : Int) = x4.snd.snd (56 : Int) /\ (0 : Int) = x4.snd.snd (57 : Int) /\ (0 : Int) = x4.snd.snd (58 : Int) /\ (0 : Int) = x4.snd.snd (59 : Int) /\ (0 : Int) = x4.snd.snd (60 : Int) /\ (0 : Int) = x4.snd.snd (61 : Int) /\ (0 : Int) = x4.snd.snd (62 : Int) /\ (0 : Int) = x4.snd.snd (63 : Int) /\ (0 : Int) = x4.snd.snd (64 : Int) /\ True) /\ True) /\ ∀ (v5 : Int × Int × (Int -> Int)), fbR x v5.fst v5.snd.fst v5.snd.snd -> ∀ v6, v6 = decide (v5.fst ≥ (16 : Int)) -> (v6 = true -> ∀ v7, v7 = IntKind.i64.wrap (v5.snd.fst - (1 : Int)) -> ∀ v8, v8 = bitI BinOp.and IntKind.u64 v5.fst (15 : Int) -> ((0 : Int) ≤ v8 /\ v8 < (36 : Int)) /\ ∀ v9, v9 = byteAt (bytesL [48, 49, 50, 51, 52, 53, 54, 55, 56, 57, 97, 98, 99, 100, 101, 102, 103, 104, 105, 106, 107, 108, 109, 110, 111, 112, 113, 114, 115, 116, 117, 118, 119, 120, 121, 122]) v8 -> ((0 : Int) ≤ v7 /\ v7 < (65 : Int)) /\ ∀ (v10 : Int), v10 = (0 : Int) + v7 * (1 : Int) -> ((0 : Int) ≤ v10 /\ v10 + (1 : Int) ≤ (65 : Int)) /\ ∀ (v11 : Int -> Int), v11 = updF v5.snd.snd v10 v9 -> decide ((0 : Int) ≤ v3) = true /\ ∀ v12, v12 = shrI IntKind.u64 v5.fst v3 -> ∃ (x13 : Int × Int × (Int -> Int)), fbR x x13.fst x13.snd.fst x13.snd.snd /\ ((Value.slice none 0 0 = Value.slice none 0 0 /\ v12 = x13.fst /\ (16 : Int) = (16 : Int) /\ false = false /\ false = false /\ Value.slice none 0 0 = Value.slice none 0 0 /\ bytesL [] = bytesL [] /\ True /\ v7 = x13.snd.fst /\ v3 = v3 /\ (16 : Int) = (16 : Int) /\ (15 : Int) = (15 : Int) /\ True) /\ ((65 : Int) = (65 : Int) /\ (∀ (v14 : Int), (0 : Int) ≤ v14 -> v14 < (65 : Int) -> v11 v14 = x13.snd.snd v14) /\ True) /\ True) /\ x13.fst.toNat < v5.fst.toNat) /\ (v6 = false -> ∀ v15, v15 = IntKind.i64.wrap (v5.snd.fst - (1 : Int)) -> ((0 : Int) ≤ v5.fst /\ v5.fst < (36 : Int)) /\ ∀ v16, v16 = byteAt (bytesL [48, 49, 50, 51, 52, 53, 54, 55, 56, 57, 97, 98, 99, 100, 101, 102, 103, 104, 105, 106, 107, 108, 109, 110, 111, 112, 113, 114, 115, 116, 117, 118, 119, 120, 121, 122]) v5.fst -> ((0 : Int) ≤ v15 /\ v15 < (65 : Int)) /\ ∀ (v17 : Int), v17 = (0 : Int) + v15 * (1 : Int) -> ((0 : Int) ≤ v17 /\ v17 + (1 : Int) ≤ (65 : Int)) /\ ∀ (v18 : Int -> Int), v18 = updF v5.snd.snd v17 v16 -> ((0 : Int) ≤ v15 /\ v15 ≤ (65 : Int) /\ (65 : Int) ≤ (65 : Int) /\ v15 < (65 : Int)) /\ ∀ (v19 : Int), v19 = (65 : Int) - v15 -> ∀ (v20 : Int), v20 = (65 : Int) - v15 -> ((0 : Int) ≤ v15 /\ (0 : Int) ≤ v19 /\ v15 + v19 ≤ (65 : Int)) /\ ∀ (v21 : ByteArray), v21 = fbytes (fun (i : Int) => v18 (v15 + i)) v19 -> v21 = hexF x)
theorem tieFmt (w0 : World) (x : Int) : VCFmt w0 x = ((recN (GW Tryd.prog [] [] fbAnnSpec fbCutSpec [] [] w0) 40).call 53 [.int .u64 (.sym x), .int .i64 (.lit 16)] [] (fun r__ _ => eqV r__ (.str (.sym (hexF x))))) := by kernel_rfl
theorem pureFmt (w0 w : World) (hb : Below w0.heap.size w0 w) (x : Int) (h : U64 x ∧ tabW w0) : VCFmt w x := by
  obtain ⟨hx, ht⟩ := h
  have ht2 := below_cell hb ht
  refine ⟨4, ht2, fun v2 h2 v3 h3 => ?_⟩
  have e3 : v3 = 4 := by rw [h3, h2]; rfl
  subst e3
  unfold U64 at hx
  refine ⟨⟨(x, 65, fun _ => 0), ⟨hx.1, ⟨by dsimp only; omega, by dsimp only; omega⟩, ?_, fun c => absurd c (by dsimp only; omega), fun j j0 j1 => absurd j1 (by dsimp only at j0; omega)⟩, by simp, by simp⟩, ?_⟩
  · show x = x / 16 ^ 0
    simp
  rintro ⟨u, i, f⟩ ⟨u0, ⟨i0, i1⟩, hu, hi, hf⟩
  dsimp only at u0 i0 i1 hu hi hf ⊢
  have hbd : u ≤ 18446744073709551615 := by
    rw [hu]
    have := Int.ediv_le_self (16 ^ (65 - i).toNat) hx.1
    omega
  refine br (fun c => ?_) (fun c => ?_)
  · have hk : (65 - i).toNat ≤ 14 := pow_bd hx.1 hx.2 (by rw [← hu]; exact c)
    intro v7 h7 v8 h8
    rw [i64_id (by omega) (by omega)] at h7
    rw [and_low_u64 ⟨u0, hbd⟩ 4 15 16] at h8
    refine ⟨by omega, fun v9 h9 => ⟨by omega, fun v10 h10 => ⟨by omega, fun v11 h11 => ⟨rfl, fun v12 h12 => ?_⟩⟩⟩⟩
    rw [dig_b (by omega) (by omega)] at h9
    rw [shrN .u64 u 4 4 16] at h12
    have e10 : v10 = i - 1 := by omega
    subst e10
    refine ⟨(u / 16, i - 1, v11), ⟨by dsimp only; omega, ⟨by dsimp only; omega, by dsimp only; omega⟩, ?_, fun _ => ?_, fun j j0 j1 => ?_⟩, by simp [h12, h7], by dsimp only; omega⟩
    · dsimp only
      rw [hu, div_pow]; congr 2; omega
    · dsimp only
      rw [show (64 - (i - 1)).toNat = (65 - i).toNat by omega, ← hu]; exact c
    · dsimp only at j0 j1 ⊢
      rw [h11]
      unfold updF
      by_cases e : j = i - 1
      · rw [if_pos e, h9, h8, hu, e, show (64 - (i - 1)).toNat = (65 - i).toNat by omega]
      · rw [if_neg e]; exact hf j (by omega) j1
  · intro v15 h15
    rw [i64_id (by omega) (by omega)] at h15
    refine ⟨by omega, fun v16 h16 => ⟨by omega, fun v17 h17 => ⟨by omega, fun v18 h18 => ⟨by omega, fun v19 h19 v20 h20 => ⟨by omega, fun v21 h21 => ?_⟩⟩⟩⟩⟩
    rw [dig_b (by omega) (by omega)] at h16
    have e17 : v17 = i - 1 := by omega
    have end1 : ndF x = 66 - i := by
      unfold ndF
      rw [nd_eq 16 (65 - i).toNat x (by omega) hx.1 (by rw [← hu]; omega) (fun kp => by
        have := hi (by omega)
        rwa [show (65 - i).toNat - 1 = (64 - i).toNat by omega])]
      omega
    rw [h21]
    unfold hexF
    rw [end1, h19, h15, show 65 - (i - 1) = 66 - i by omega]
    unfold fbytes
    congr 2
    apply List.map_congr_left
    intro a ha
    have ha := List.mem_range.1 ha
    have key : v18 (i - 1 + (a : Int)) = hexD (x / 16 ^ (66 - i - 1 - (a : Int)).toNat % 16) := by
      rw [h18]
      unfold updF
      by_cases e : (a : Int) = 0
      · rw [if_pos (by omega), h16, show (66 - i - 1 - (a : Int)).toNat = (65 - i).toNat by omega, ← hu, Int.emod_eq_of_lt u0 (by omega)]
      · rw [if_neg (by omega), hf _ (by omega) (by omega), show (64 - (i - 1 + (a : Int))).toNat = (66 - i - 1 - (a : Int)).toNat by omega]
    show UInt8.ofNat (v18 (i - 1 + (a : Int))).toNat = UInt8.ofNat (hexD (x / 16 ^ (66 - i - 1 - (a : Int)).toNat % 16)).toNat
    rw [key]
theorem fmt_ok : SpecOkW Tryd.prog 53 fmtSpec := by
  intro w0 args k h
  unfold fmtSpec at h
  split at h
  · rename_i x
    obtain ⟨hr, h⟩ := h
    exact ⟨_, h _ rfl, PureOkAt.of_tie (GW Tryd.prog [] [] fbAnnSpec fbCutSpec [] []) (fun w__ => gokW w__ namesOk_ mixed_ trivial trivial) (fun _ => rfl) (fun _ => rfl) (args' := [.int .u64 (.sym x.val), .int .i64 (.lit 16)]) ⟨⟨rfl, rfl⟩, ⟨rfl, rfl⟩, trivial⟩ 40 (fun w__ => VCFmt w__ x.val) (fun w__ => tieFmt w__ x.val) (fun w__ hb__ => pureFmt w0 w__ hb__ x.val hr)⟩
  · exact h.elim

end Go.Proofs.YtaaobpalpcdlbaaDoor.Bits
