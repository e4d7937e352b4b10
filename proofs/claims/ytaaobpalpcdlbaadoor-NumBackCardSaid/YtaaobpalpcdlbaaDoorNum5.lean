import Derived.Test.YtaaobpalpcdlbaaDoorSxR
import Derived.Test.YtaaobpalpcdlbaaDoorProg
import Derived.Test.YtaaobpalpcdlbaaDoorNum3
import Derived.KernelRfl
namespace Go.Proofs.YtaaobpalpcdlbaaDoor.Bits
open Go Go.Sx Go.RowKit
set_option linter.unusedVariables false
set_option maxRecDepth 100000
def val8 (a b c d e f g h : Int) : Int := val4 a b c d + val4 e f g h * 115792089237316195423570985008687907853269984665640564039457584007913129639936
def shw (a b : Int) (s : Nat) : Int := a * 2 ^ s % 18446744073709551616 + b / 2 ^ (64 - s)
def shiftedSpec : CSpec
  | [.agg [.int .u64 l0, .int .u64 l1, .int .u64 l2, .int .u64 l3, .int .u64 l4, .int .u64 l5, .int .u64 l6, .int .u64 l7], .int .i64 s], k => ((U64 l0.val) ∧ (U64 l1.val) ∧ (U64 l2.val) ∧ (U64 l3.val) ∧ (U64 l4.val) ∧ (U64 l5.val) ∧ (U64 l6.val) ∧ (U64 l7.val) ∧ (I64 s.val) ∧ (0 ≤ s.val ∧ s.val ≤ 63)) ∧ (∀ r0 : Int, r0 = (shw l0.val 0 s.val.toNat) → ∀ r1 : Int, r1 = (shw l1.val l0.val s.val.toNat) → ∀ r2 : Int, r2 = (shw l2.val l1.val s.val.toNat) → ∀ r3 : Int, r3 = (shw l3.val l2.val s.val.toNat) → ∀ r4 : Int, r4 = (shw l4.val l3.val s.val.toNat) → ∀ r5 : Int, r5 = (shw l5.val l4.val s.val.toNat) → ∀ r6 : Int, r6 = (shw l6.val l5.val s.val.toNat) → ∀ r7 : Int, r7 = (shw l7.val l6.val s.val.toNat) → ∀ r8 : Int, r8 = (shw 0 l7.val s.val.toNat) → k (.agg [.int .u64 (.sym r0), .int .u64 (.sym r1), .int .u64 (.sym r2), .int .u64 (.sym r3), .int .u64 (.sym r4), .int .u64 (.sym r5), .int .u64 (.sym r6), .int .u64 (.sym r7), .int .u64 (.sym r8)]))
  | _, _ => False
def VCShifted (l0 : Int) (l1 : Int) (l2 : Int) (l3 : Int) (l4 : Int) (l5 : Int) (l6 : Int) (l7 : Int) (s : Int) : Prop :=
  decide ((0 : Int) ≤ s) = true /\ ∀ v1, v1 = shlI IntKind.u64 l0 s -> ∀ v2, v2 = bitI BinOp.or IntKind.u64 (0 : Int) v1 -> ∀ v3, v3 = shrI IntKind.u64 l0 (1 : Int) -> ∀ v4, v4 = IntKind.i64.wrap ((63 : Int) - s) -> decide ((0 : Int) ≤ v4) = true /\ ∀ v5, v5 = shrI IntKind.u64 v3 v4 -> decide ((0 : Int) ≤ s) = true /\ ∀ v6, v6 = shlI IntKind.u64 l1 s -> ∀ v7, v7 = bitI BinOp.or IntKind.u64 v5 v6 -> ∀ v8, v8 = shrI IntKind.u64 l1 (1 : Int) -> ∀ v9, v9 = IntKind.i64.wrap ((63 : Int) - s) -> decide ((0 : Int) ≤ v9) = true /\ ∀ v10, v10 = shrI IntKind.u64 v8 v9 -> decide ((0 : Int) ≤ s) = true /\ ∀ v11, v11 = shlI IntKind.u64 l2 s -> ∀ v12, v12 = bitI BinOp.or IntKind.u64 v10 v11 -> ∀ v13, v13 = shrI IntKind.u64 l2 (1 : Int) -> ∀ v14, v14 = IntKind.i64.wrap ((63 : Int) - s) -> decide ((0 : Int) ≤ v14) = true /\ ∀ v15, v15 = shrI IntKind.u64 v13 v14 -> decide ((0 : Int) ≤ s) = true /\ ∀ v16, v16 = shlI IntKind.u64 l3 s -> ∀ v17, v17 = bitI BinOp.or IntKind.u64 v15 v16 -> ∀ v18, v18 = shrI IntKind.u64 l3 (1 : Int) -> ∀ v19, v19 = IntKind.i64.wrap ((63 : Int) - s) -> decide ((0 : Int) ≤ v19) = true /\ ∀ v20, v20 = shrI IntKind.u64 v18 v19 -> decide ((0 : Int) ≤ s) = true /\ ∀ v21, v21 = shlI IntKind.u64 l4 s -> ∀ v22, v22 = bitI BinOp.or IntKind.u64 v20 v21 -> ∀ v23, v23 = shrI IntKind.u64 l4 (1 : Int) -> ∀ v24, v24 = IntKind.i64.wrap ((63 : Int) - s) -> decide ((0 : Int) ≤ v24) = true /\ ∀ v25, v25 = shrI IntKind.u64 v23 v24 -> decide ((0 : Int) ≤ s) = true /\ ∀ v26, v26 = shlI IntKind.u64 l5 s -> ∀ v27, v27 = bitI BinOp.or IntKind.u64 v25 v26 -> ∀ v28, v28 = shrI IntKind.u64 l5 (1 : Int) -> ∀ v29, v29 = IntKind.i64.wrap ((63 : Int) - s) -> decide ((0 : Int) ≤ v29) = true /\ ∀ v30, v30 = shrI IntKind.u64 v28 v29 -> decide ((0 : Int) ≤ s) = true /\ ∀ v31, v31 = shlI IntKind.u64 l6 s -> ∀ v32, v32 = bitI BinOp.or IntKind.u64 v30 v31 -> ∀ v33, v33 = shrI IntKind.u64 l6 (1 : Int) -> ∀ v34, v34 = IntKind.i64.wrap ((63 : Int) - s) -> decide ((0 : Int) ≤ v34) = true /\ ∀ v35, v35 = shrI IntKind.u64 v33 v34 -> decide ((0 : Int) ≤ s) = true /\ ∀ v36, v36 = shlI IntKind.u64 l7 s -> ∀ v37, v37 = bitI BinOp.or IntKind.u64 v35 v36 -> ∀ v38, v38 = shrI IntKind.u64 l7 (1 : Int) -> ∀ v39, v39 = IntKind.i64.wrap ((63 : Int) - s) -> decide ((0 : Int) ≤ v39) = true /\ ∀ v40, v40 = shrI IntKind.u64 v38 v39 -> (IntKind.u64 = IntKind.u64 /\ v2 = shw l0 0 s.toNat) /\ (IntKind.u64 = IntKind.u64 /\ v7 = shw l1 l0 s.toNat) /\ (IntKind.u64 = IntKind.u64 /\ v12 = shw l2 l1 s.toNat) /\ (IntKind.u64 = IntKind.u64 /\ v17 = shw l3 l2 s.toNat) /\ (IntKind.u64 = IntKind.u64 /\ v22 = shw l4 l3 s.toNat) /\ (IntKind.u64 = IntKind.u64 /\ v27 = shw l5 l4 s.toNat) /\ (IntKind.u64 = IntKind.u64 /\ v32 = shw l6 l5 s.toNat) /\ (IntKind.u64 = IntKind.u64 /\ v37 = shw l7 l6 s.toNat) /\ (IntKind.u64 = IntKind.u64 /\ v40 = shw 0 l7 s.toNat) /\ True
theorem tieShifted (w0 : World) (l0 : Int) (l1 : Int) (l2 : Int) (l3 : Int) (l4 : Int) (l5 : Int) (l6 : Int) (l7 : Int) (s : Int) : VCShifted l0 l1 l2 l3 l4 l5 l6 l7 s = ((recN (GC Tryd.prog [] w0) 40).call 35 [.agg [.int .u64 (.sym l0), .int .u64 (.sym l1), .int .u64 (.sym l2), .int .u64 (.sym l3), .int .u64 (.sym l4), .int .u64 (.sym l5), .int .u64 (.sym l6), .int .u64 (.sym l7)], .int .i64 (.sym s)] [] (fun r__ _ => eqV r__ (.agg [.int .u64 (.sym (shw l0 0 s.toNat)), .int .u64 (.sym (shw l1 l0 s.toNat)), .int .u64 (.sym (shw l2 l1 s.toNat)), .int .u64 (.sym (shw l3 l2 s.toNat)), .int .u64 (.sym (shw l4 l3 s.toNat)), .int .u64 (.sym (shw l5 l4 s.toNat)), .int .u64 (.sym (shw l6 l5 s.toNat)), .int .u64 (.sym (shw l7 l6 s.toNat)), .int .u64 (.sym (shw 0 l7 s.toNat))]))) := by kernel_rfl
theorem or_comm_u64 (x y : Int) : bitI .or .u64 x y = bitI .or .u64 y x := by
  unfold bitI; simp only [BitVec.or_comm]
theorem shl_word {l : Int} {s : Nat} (hl : U64 l) (hs : s ≤ 63) : l * 2 ^ s % 18446744073709551616 = l % 2 ^ (64 - s) * 2 ^ s := by
  have e : (18446744073709551616 : Int) = 2 ^ (64 - s) * 2 ^ s := by
    rw [← Int.pow_add, show 64 - s + s = 64 by omega]; rfl
  rw [e, Int.mul_comm l, Int.mul_comm (2 ^ (64 - s)), Int.mul_emod_mul_of_pos _ _ (Int.pow_pos (by omega)), Int.mul_comm]
theorem high_lt {m : Int} {s : Nat} (hm : 0 ≤ m ∧ m ≤ 18446744073709551615) (hs : s ≤ 63) : 0 ≤ m / 2 ^ (64 - s) ∧ m / 2 ^ (64 - s) < 2 ^ s := by
  have p : (0 : Int) < 2 ^ (64 - s) := Int.pow_pos (by omega)
  refine ⟨Int.ediv_nonneg hm.1 (by omega), Int.ediv_lt_of_lt_mul p ?_⟩
  have e : (2 : Int) ^ s * 2 ^ (64 - s) = 18446744073709551616 := by
    rw [← Int.pow_add, show s + (64 - s) = 64 by omega]; rfl
  rw [e]; omega
theorem shw_in {l m : Int} {s : Nat} (hl : U64 l) (hm : 0 ≤ m ∧ m ≤ 18446744073709551615) (hs : s ≤ 63) : 0 ≤ shw l m s ∧ shw l m s ≤ 18446744073709551615 := by
  have b := high_lt hm hs
  have c := Int.emod_nonneg l (show (2 : Int) ^ (64 - s) ≠ 0 from Int.pow_ne_zero (by omega))
  have d := Int.emod_lt_of_pos l (show (0 : Int) < 2 ^ (64 - s) from Int.pow_pos (by omega))
  have e : (2 : Int) ^ (64 - s) * 2 ^ s = 18446744073709551616 := by
    rw [← Int.pow_add, show 64 - s + s = 64 by omega]; rfl
  have f := Int.mul_le_mul_of_nonneg_right (show l % 2 ^ (64 - s) ≤ 2 ^ (64 - s) - 1 by omega) (show (0 : Int) ≤ 2 ^ s from Int.le_of_lt (Int.pow_pos (by omega)))
  rw [Int.sub_mul, e] at f
  have g := Int.mul_nonneg c (show (0 : Int) ≤ 2 ^ s from Int.le_of_lt (Int.pow_pos (by omega)))
  unfold shw
  rw [shl_word hl hs]
  omega
theorem shStep {l m : Int} {s : Nat} {K : Int → Int → Prop} (hl : U64 l) (hm : 0 ≤ m ∧ m ≤ 18446744073709551615) (hs : s ≤ 63) (h : K (shw l m s) (l / 2 ^ (64 - s))) :
    decide (0 ≤ (s : Int)) = true ∧ ∀ v1, v1 = shlI .u64 l (s : Int) → ∀ v2, v2 = bitI .or .u64 (m / 2 ^ (64 - s)) v1 → ∀ v3, v3 = shrI .u64 l 1 → ∀ v4, v4 = IntKind.i64.wrap (63 - (s : Int)) → decide (0 ≤ v4) = true ∧ ∀ v5, v5 = shrI .u64 v3 v4 → K v2 v5 := by
  refine ⟨by simp, fun v1 h1 v2 h2 v3 h3 v4 h4 => ⟨?_, fun v5 h5 => ?_⟩⟩
  · rw [i64_id (by omega) (by omega)] at h4; simp; omega
  rw [i64_id (by omega) (by omega)] at h4
  rw [shl_eq .u64 l s (by simp only [IntKind.bits]; omega), w_u64] at h1
  rw [shrN .u64 _ 1 _ 2] at h3
  rw [show v4 = ((63 - s : Nat) : Int) by omega, shr_eq .u64 v3 (63 - s) (by simp only [IntKind.bits]; omega), h3, Int.ediv_ediv_of_nonneg (by omega), ← Int.pow_succ', show 63 - s + 1 = 64 - s by omega] at h5
  have b := high_lt hm hs
  have w := shw_in hl hm hs
  unfold shw at w
  have e2 : v2 = shw l m s := by
    unfold shw
    rw [h2, h1, or_comm_u64, shl_word hl hs]
    rw [shl_word hl hs] at w
    have c := Int.emod_nonneg l (show (2 : Int) ^ (64 - s) ≠ 0 from Int.pow_ne_zero (by omega))
    have g := Int.mul_nonneg c (show (0 : Int) ≤ 2 ^ s from Int.le_of_lt (Int.pow_pos (by omega)))
    exact or_parts_u64 c b.1 b.2 (by omega) (by omega) (by omega)
  rw [e2, h5]
  exact h
theorem shStep0 {l : Int} {s : Nat} {K : Int → Int → Prop} (hl : U64 l) (hs : s ≤ 63) (h : K (shw l 0 s) (l / 2 ^ (64 - s))) :
    decide (0 ≤ (s : Int)) = true ∧ ∀ v1, v1 = shlI .u64 l (s : Int) → ∀ v2, v2 = bitI .or .u64 0 v1 → ∀ v3, v3 = shrI .u64 l 1 → ∀ v4, v4 = IntKind.i64.wrap (63 - (s : Int)) → decide (0 ≤ v4) = true ∧ ∀ v5, v5 = shrI .u64 v3 v4 → K v2 v5 := by
  have := shStep (m := 0) (K := K) hl (by omega) hs h
  simpa using this
theorem pureShifted (l0 l1 l2 l3 l4 l5 l6 l7 s : Int) (h : U64 l0 ∧ U64 l1 ∧ U64 l2 ∧ U64 l3 ∧ U64 l4 ∧ U64 l5 ∧ U64 l6 ∧ U64 l7 ∧ I64 s ∧ 0 ≤ s ∧ s ≤ 63) : VCShifted l0 l1 l2 l3 l4 l5 l6 l7 s := by
  obtain ⟨h0, h1, h2, h3, h4, h5, h6, h7, _, hs, hs'⟩ := h
  obtain ⟨n, rfl⟩ := Int.eq_ofNat_of_zero_le hs
  have hn : n ≤ 63 := by omega
  refine shStep0 h0 hn (shStep h1 h0 hn (shStep h2 h1 hn (shStep h3 h2 hn (shStep h4 h3 hn (shStep h5 h4 hn (shStep h6 h5 hn (shStep h7 h6 hn ?_)))))))
  refine ⟨⟨rfl, rfl⟩, ⟨rfl, rfl⟩, ⟨rfl, rfl⟩, ⟨rfl, rfl⟩, ⟨rfl, rfl⟩, ⟨rfl, rfl⟩, ⟨rfl, rfl⟩, ⟨rfl, rfl⟩, ⟨rfl, ?_⟩, trivial⟩
  unfold shw; simp
theorem shifted_ok : SpecOk Tryd.prog 35 shiftedSpec := by
  intro args k h
  unfold shiftedSpec at h
  split at h
  · rename_i l0 l1 l2 l3 l4 l5 l6 l7 s
    obtain ⟨hr, h⟩ := h
    exact ⟨_, h _ rfl _ rfl _ rfl _ rfl _ rfl _ rfl _ rfl _ rfl _ rfl, PureOk.of_tie (GC Tryd.prog []) (fun w__ => gok w__ namesOk_ mixed_ trivial) (fun _ => rfl) (fun _ => rfl) (args' := [.agg [.int .u64 (.sym l0.val), .int .u64 (.sym l1.val), .int .u64 (.sym l2.val), .int .u64 (.sym l3.val), .int .u64 (.sym l4.val), .int .u64 (.sym l5.val), .int .u64 (.sym l6.val), .int .u64 (.sym l7.val)], .int .i64 (.sym s.val)]) ⟨⟨⟨rfl, rfl⟩, ⟨rfl, rfl⟩, ⟨rfl, rfl⟩, ⟨rfl, rfl⟩, ⟨rfl, rfl⟩, ⟨rfl, rfl⟩, ⟨rfl, rfl⟩, ⟨rfl, rfl⟩, trivial⟩, ⟨rfl, rfl⟩, trivial⟩ 40 (fun w__ => VCShifted l0.val l1.val l2.val l3.val l4.val l5.val l6.val l7.val s.val) (fun w__ => tieShifted w__ l0.val l1.val l2.val l3.val l4.val l5.val l6.val l7.val s.val) (fun w__ => pureShifted l0.val l1.val l2.val l3.val l4.val l5.val l6.val l7.val s.val hr)⟩
  · exact h.elim

end Go.Proofs.YtaaobpalpcdlbaaDoor.Bits
