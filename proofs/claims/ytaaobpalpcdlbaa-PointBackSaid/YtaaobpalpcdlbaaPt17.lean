import Derived.Test.YtaaobpalpcdlbaaSxR
import Derived.Test.YtaaobpalpcdlbaaProg
import Derived.Test.YtaaobpalpcdlbaaPt16
import Derived.KernelRfl
namespace Go.Proofs.Ytaaobpalpcdlbaa.Bits
open Go Go.Sx Go.RowKit Go.EC
set_option linter.unusedVariables false
set_option maxRecDepth 100000
def pt17Spec : List (FuncId × CSpec) := [(57, pDecodeSpec), (59, rDecodeSpec), (60, pBaseSpec), (62, pOnSpec), (53, rOnSpec), (58, pEncodeSpec), (63, rEncodeSpec), (64, pNegSpec), (65, rNegSpec), (54, awake4Spec)]
theorem pt17_ok : SpecsOk Try.prog pt17Spec := ⟨pDecode_ok, rDecode_ok, pBase_ok, pOn_ok, rOn_ok, pEncode_ok, rEncode_ok, pNeg_ok, rNeg_ok, awake4_ok, trivial⟩
theorem lgx4 : limb 48439561293906451759052585252797914202762949526041747995844080717082404635286 0 = 17627433388654248598 ∧ limb 48439561293906451759052585252797914202762949526041747995844080717082404635286 1 = 8575836109218198432 ∧ limb 48439561293906451759052585252797914202762949526041747995844080717082404635286 2 = 17923454489921339634 ∧ limb 48439561293906451759052585252797914202762949526041747995844080717082404635286 3 = 7716867327612699207 := by decide +kernel
theorem lgy4 : limb 36134250956749795798585127919587881956611106672985015071877198253568414405109 0 = 14678990851816772085 ∧ limb 36134250956749795798585127919587881956611106672985015071877198253568414405109 1 = 3156516839386865358 ∧ limb 36134250956749795798585127919587881956611106672985015071877198253568414405109 2 = 10297457778147434006 ∧ limb 36134250956749795798585127919587881956611106672985015071877198253568414405109 3 = 5756518291402817435 := by decide +kernel
def VCPointReads (ax0 : Int) (ax1 : Int) (ax2 : Int) (ax3 : Int) (ay0 : Int) (ay1 : Int) (ay2 : Int) (ay3 : Int) (ai : Bool) (s : ByteArray) : Prop :=
  s.size ≤ 140737488351232 /\ ∀ v1, v1 = decX s -> ∀ v2, v2 = decY s -> ∀ v3, v3 = decE s -> s.size ≤ 140737488351232 /\ ∀ v4, v4 = decX s -> ∀ v5, v5 = decY s -> ∀ v6, v6 = decE s -> True /\ ∀ (v7 : Int), v7 = (48439561293906451759052585252797914202762949526041747995844080717082404635286 : Int) -> ∀ (v8 : Int), v8 = (36134250956749795798585127919587881956611106672985015071877198253568414405109 : Int) -> ∀ (v9 : Bool), v9 = !(limb v7 0 == (17627433388654248598 : Int) && (limb v7 1 == (8575836109218198432 : Int) && (limb v7 2 == (17923454489921339634 : Int) && (limb v7 3 == (7716867327612699207 : Int) && true))) && (limb v8 0 == (14678990851816772085 : Int) && (limb v8 1 == (3156516839386865358 : Int) && (limb v8 2 == (10297457778147434006 : Int) && (limb v8 3 == (5756518291402817435 : Int) && true))) && true)) -> (v9 = false -> (U64 ax0 /\ U64 ax1 /\ U64 ax2 /\ U64 ax3 /\ U64 ay0 /\ U64 ay1 /\ U64 ay2 /\ U64 ay3) /\ ∀ v10, v10 = onP (val4 ax0 ax1 ax2 ax3) (val4 ay0 ay1 ay2 ay3) ai -> (U64 ax0 /\ U64 ax1 /\ U64 ax2 /\ U64 ax3 /\ U64 ay0 /\ U64 ay1 /\ U64 ay2 /\ U64 ay3) /\ ∀ v11, v11 = onP (val4 ax0 ax1 ax2 ax3) (val4 ay0 ay1 ay2 ay3) ai -> ∀ (v12 : Bool), v12 = !v10 == v11 -> (v12 = false -> ∀ (v13 : Bool), v13 = !(limb v1 0 == limb v4 0 && (limb v1 1 == limb v4 1 && (limb v1 2 == limb v4 2 && (limb v1 3 == limb v4 3 && true))) && (limb v2 0 == limb v5 0 && (limb v2 1 == limb v5 1 && (limb v2 2 == limb v5 2 && (limb v2 3 == limb v5 3 && true))) && true)) -> (v13 = false -> ∀ v14, v14 = (v3 != v6) -> (v14 = true -> false = true) /\ (v14 = false -> (U64 ax0 /\ U64 ax1 /\ U64 ax2 /\ U64 ax3 /\ U64 ay0 /\ U64 ay1 /\ U64 ay2 /\ U64 ay3) /\ ∀ v15, v15 = onP (val4 ax0 ax1 ax2 ax3) (val4 ay0 ay1 ay2 ay3) ai -> ∀ (v16 : Bool), v16 = !v15 -> (v16 = false -> (U64 ax0 /\ U64 ax1 /\ U64 ax2 /\ U64 ax3 /\ U64 ay0 /\ U64 ay1 /\ U64 ay2 /\ U64 ay3) /\ ∀ (v17 : ByteArray), v17 = encF ai (val4 ax0 ax1 ax2 ax3) (val4 ay0 ay1 ay2 ay3) -> (U64 ax0 /\ U64 ax1 /\ U64 ax2 /\ U64 ax3 /\ U64 ay0 /\ U64 ay1 /\ U64 ay2 /\ U64 ay3) /\ ∀ (v18 : ByteArray), v18 = encF ai (val4 ax0 ax1 ax2 ax3) (val4 ay0 ay1 ay2 ay3) -> ∀ v19, v19 = (v17 == v18) -> (v19 = true -> (U64 ax0 /\ U64 ax1 /\ U64 ax2 /\ U64 ax3 /\ U64 ay0 /\ U64 ay1 /\ U64 ay2 /\ U64 ay3) /\ ∀ v20, v20 = ax0 -> ∀ v21, v21 = ax1 -> ∀ v22, v22 = ax2 -> ∀ v23, v23 = ax3 -> ∀ v24, v24 = sI (0 : Int) (val4 ay0 ay1 ay2 ay3) -> ∀ v25, v25 = ai -> (U64 ax0 /\ U64 ax1 /\ U64 ax2 /\ U64 ax3 /\ U64 ay0 /\ U64 ay1 /\ U64 ay2 /\ U64 ay3) /\ ∀ v26, v26 = ax0 -> ∀ v27, v27 = ax1 -> ∀ v28, v28 = ax2 -> ∀ v29, v29 = ax3 -> ∀ v30, v30 = sI (0 : Int) (val4 ay0 ay1 ay2 ay3) -> ∀ v31, v31 = ai -> ∀ v32, v32 = (v20 == v26 && (v21 == v27 && (v22 == v28 && (v23 == v29 && true))) && (limb v24 0 == limb v30 0 && (limb v24 1 == limb v30 1 && (limb v24 2 == limb v30 2 && (limb v24 3 == limb v30 3 && true))) && (v25 == v31 && true))) -> (v32 = true -> True /\ true = true) /\ (v32 = false -> false = true)) /\ (v19 = false -> false = true)) /\ (v16 = true -> True /\ true = true))) /\ (v13 = true -> false = true)) /\ (v12 = true -> false = true)) /\ (v9 = true -> false = true)
theorem tiePointReads (w0 : World) (ax0 : Int) (ax1 : Int) (ax2 : Int) (ax3 : Int) (ay0 : Int) (ay1 : Int) (ay2 : Int) (ay3 : Int) (ai : Bool) (s : ByteArray) : VCPointReads ax0 ax1 ax2 ax3 ay0 ay1 ay2 ay3 ai s = ((recN (GC Try.prog pt17Spec w0) 60).call 14 [.agg [.int .u64 (.sym ax0), .int .u64 (.sym ax1), .int .u64 (.sym ax2), .int .u64 (.sym ax3), .int .u64 (.sym ay0), .int .u64 (.sym ay1), .int .u64 (.sym ay2), .int .u64 (.sym ay3), .bool (.sym ai)], .str (.sym s)] [] (fun v _ => isTrue v)) := by kernel_rfl
theorem purePointReads (ax0 ax1 ax2 ax3 ay0 ay1 ay2 ay3 : Int) (ai : Bool) (s : ByteArray) (h : U64 ax0 ∧ U64 ax1 ∧ U64 ax2 ∧ U64 ax3 ∧ U64 ay0 ∧ U64 ay1 ∧ U64 ay2 ∧ U64 ay3 ∧ (s.size ≤ 140737488351232)) : VCPointReads ax0 ax1 ax2 ax3 ay0 ay1 ay2 ay3 ai s := by
  obtain ⟨hax0, hax1, hax2, hax3, hay0, hay1, hay2, hay3, hs⟩ := h
  have eax0 : U64 ax0 = True := eq_true hax0
  have eax1 : U64 ax1 = True := eq_true hax1
  have eax2 : U64 ax2 = True := eq_true hax2
  have eax3 : U64 ax3 = True := eq_true hax3
  have eay0 : U64 ay0 = True := eq_true hay0
  have eay1 : U64 ay1 = True := eq_true hay1
  have eay2 : U64 ay2 = True := eq_true hay2
  have eay3 : U64 ay3 = True := eq_true hay3
  have es : (s.size ≤ 140737488351232) = True := eq_true hs
  unfold VCPointReads
  simp only [forall_eq, es, eax0, eax1, eax2, eax3, eay0, eay1, eay2, eay3, lgx4.1, lgx4.2.1, lgx4.2.2.1, lgx4.2.2.2, lgy4.1, lgy4.2.1, lgy4.2.2.1, lgy4.2.2.2, ba_eq, beq_self_eq_true, bne_self_eq_false, decide_true, Bool.and_true, Bool.not_true, true_and, and_true, reduceCtorEq, false_implies, forall_const, and_self, implies_true]
theorem walkPointReads (ax0 : Int) (ax1 : Int) (ax2 : Int) (ax3 : Int) (ay0 : Int) (ay1 : Int) (ay2 : Int) (ay3 : Int) (ai : Bool) (s : ByteArray) (w0 : World) (hax0 : (Lit.int .u64 ax0).wf = true) (hax1 : (Lit.int .u64 ax1).wf = true) (hax2 : (Lit.int .u64 ax2).wf = true) (hax3 : (Lit.int .u64 ax3).wf = true) (hay0 : (Lit.int .u64 ay0).wf = true) (hay1 : (Lit.int .u64 ay1).wf = true) (hay2 : (Lit.int .u64 ay2).wf = true) (hay3 : (Lit.int .u64 ay3).wf = true) (hs : s.size ≤ 140737488351232) : Calls Try.prog 14 #[.agg #[.int .u64 ax0, .int .u64 ax1, .int .u64 ax2, .int .u64 ax3, .int .u64 ay0, .int .u64 ay1, .int .u64 ay2, .int .u64 ay3, .bool ai], .string s] w0 fun e w' => e = .returned (.bool true) ∧ Below w0.heap.size w0 w' :=
  law_tie (G := GC Try.prog pt17Spec w0) (gok w0 namesOk_ mixed_ pt17_ok) (n := 60) (f := 14) (args := [.agg [.int .u64 (.sym ax0), .int .u64 (.sym ax1), .int .u64 (.sym ax2), .int .u64 (.sym ax3), .int .u64 (.sym ay0), .int .u64 (.sym ay1), .int .u64 (.sym ay2), .int .u64 (.sym ay3), .bool (.sym ai)], .str (.sym s)]) (by kernel_rfl) (VCPointReads ax0 ax1 ax2 ax3 ay0 ay1 ay2 ay3 ai s) (tiePointReads w0 ax0 ax1 ax2 ax3 ay0 ay1 ay2 ay3 ai s) (purePointReads ax0 ax1 ax2 ax3 ay0 ay1 ay2 ay3 ai s ⟨wf_u64 hax0, wf_u64 hax1, wf_u64 hax2, wf_u64 hax3, wf_u64 hay0, wf_u64 hay1, wf_u64 hay2, wf_u64 hay3, hs⟩)

theorem dec_ok {s : ByteArray} (h : decE s = 0) : s.size = 65 ∧ byteAt s 0 = 4 ∧ onP (beF (s.extract 1 33)) (beF (s.extract 33 65)) false = true := by
  unfold decE at h
  by_cases c1 : s = bytesL []
  · rw [if_pos c1] at h; exact absurd h (by decide)
  rw [if_neg c1] at h
  by_cases c2 : byteAt s 0 ≠ 4
  · rw [if_pos c2] at h; exact absurd h (by decide)
  rw [if_neg c2] at h
  by_cases c3 : (s.size : Int) < 65
  · rw [if_pos c3] at h; exact absurd h (by decide)
  rw [if_neg c3] at h
  by_cases c4 : (s.size : Int) > 65
  · rw [if_pos c4] at h; exact absurd h (by decide)
  rw [if_neg c4] at h
  have z1 : s.size = 65 := by omega
  have z2 : byteAt s 0 = 4 := by omega
  clear c1 c2 c3 c4
  refine ⟨z1, z2, ?_⟩
  by_cases o : onP (beF (s.extract 1 33)) (beF (s.extract 33 65)) false = true
  · exact o
  · rw [if_neg o] at h; exact absurd h (by decide)
theorem cut_1 {a b : ByteArray} (ha : a.size = 32) (hb : b.size = 32) : (bytesL [4] ++ a ++ b).extract 1 33 = a ∧ (bytesL [4] ++ a ++ b).extract 33 65 = b ∧ byteAt (bytesL [4] ++ a ++ b) 0 = 4 ∧ (bytesL [4] ++ a ++ b).size = 65 := by
  have h1 : (bytesL [4]).size = 1 := rfl
  have h2 : (bytesL [4] ++ a).size = 33 := by rw [ByteArray.size_append]; omega
  have h3 : (bytesL [4] ++ a ++ b).size = 65 := by rw [ByteArray.size_append]; omega
  refine ⟨ba_ext (by rw [ByteArray.size_extract]; omega) fun i hi => ?_, ba_ext (by rw [ByteArray.size_extract]; omega) fun i hi => ?_, ?_, h3⟩
  · rw [ByteArray.size_extract] at hi
    rw [byteAt_e (by omega) (by omega), byteAt_l (by omega), byteAt_r (by omega), h1]
    congr 2; omega
  · rw [ByteArray.size_extract] at hi
    rw [byteAt_e (by omega) (by omega), byteAt_r (by omega), h2]
    congr 2; omega
  · have := byteAt_l (a := bytesL [4] ++ a) (b := b) (i := 0) (by omega)
    rw [byteAt_l (a := bytesL [4]) (by omega)] at this
    exact this
theorem enc_dec {s : ByteArray} (h : decE s = 0) : encF false (decX s) (decY s) = s := by
  obtain ⟨h1, h2, _⟩ := dec_ok h
  have x : decX s = beF (s.extract 1 33) := if_pos h
  have y : decY s = beF (s.extract 33 65) := if_pos h
  have sx : (s.extract 1 33).size = 32 := by rw [ByteArray.size_extract]; omega
  have sy : (s.extract 33 65).size = 32 := by rw [ByteArray.size_extract]; omega
  rw [x, y]
  show bytesL [4] ++ bigF (beF (s.extract 1 33)) ++ bigF (beF (s.extract 33 65)) = s
  rw [big_be sx, big_be sy]
  obtain ⟨c1, c2, c3, c4⟩ := cut_1 sx sy
  have h33 : (bytesL [4] ++ s.extract 1 33).size = 33 := by rw [ByteArray.size_append, sx]; rfl
  refine ba_ext (by omega) fun i hi => ?_
  rw [c4] at hi
  rcases Nat.lt_or_ge i 33 with c | c
  · rw [byteAt_l (by omega)]
    rcases Nat.eq_zero_or_pos i with z | z
    · subst z
      have : byteAt (bytesL [4] ++ s.extract 1 33) ((0 : Nat) : Int) = 4 := by rw [byteAt_l (by decide)]; rfl
      rw [this]; exact h2.symm
    · rw [byteAt_r (by show 1 ≤ i; omega), byteAt_e (by show 1 + (i - 1) < 33; omega) (by omega)]
      congr 1
      show ((1 + (i - 1) : Nat) : Int) = i
      omega
  · rw [byteAt_r (by omega), h33, byteAt_e (by omega) (by omega), show 33 + (i - 33) = i by omega]
theorem dec_enc {X Y : Int} (hX : 0 ≤ X ∧ X < 115792089237316195423570985008687907853269984665640564039457584007913129639936) (hY : 0 ≤ Y ∧ Y < 115792089237316195423570985008687907853269984665640564039457584007913129639936) (h : onP X Y false = true) :
    decE (encF false X Y) = 0 ∧ decX (encF false X Y) = X ∧ decY (encF false X Y) = Y := by
  have sx := big_size X
  have sy := big_size Y
  obtain ⟨c1, c2, c3, c4⟩ := cut_1 (a := bigF X) (b := bigF Y) (by omega) (by omega)
  have e : encF false X Y = bytesL [4] ++ bigF X ++ bigF Y := rfl
  rw [e]
  have d : decE (bytesL [4] ++ bigF X ++ bigF Y) = 0 := by
    unfold decE
    rw [if_neg (fun z => by have := congrArg ByteArray.size z; rw [c4] at this; exact absurd this (by decide)), if_neg (by rw [c3]; decide), if_neg (by omega), if_neg (by omega), c1, c2, be_big hX.1 hX.2, be_big hY.1 hY.2, if_pos h]
  refine ⟨d, ?_, ?_⟩
  · unfold decX; rw [if_pos d, c1, be_big hX.1 hX.2]
  · unfold decY; rw [if_pos d, c2, be_big hY.1 hY.2]
def VCPointBack (ax0 : Int) (ax1 : Int) (ax2 : Int) (ax3 : Int) (ay0 : Int) (ay1 : Int) (ay2 : Int) (ay3 : Int) (ai : Bool) (s : ByteArray) : Prop :=
  s.size ≤ 140737488351232 /\ ∀ v1, v1 = decX s -> ∀ v2, v2 = decY s -> ∀ v3, v3 = decE s -> ∀ v4, v4 = (v3 == (0 : Int)) -> (v4 = true -> (U64 (limb v1 0) /\ U64 (limb v1 1) /\ U64 (limb v1 2) /\ U64 (limb v1 3) /\ U64 (limb v2 0) /\ U64 (limb v2 1) /\ U64 (limb v2 2) /\ U64 (limb v2 3)) /\ ∀ (v5 : ByteArray), v5 = encF false (val4 (limb v1 0) (limb v1 1) (limb v1 2) (limb v1 3)) (val4 (limb v2 0) (limb v2 1) (limb v2 2) (limb v2 3)) -> ∀ (v6 : Bool), v6 = !v5 == s -> (v6 = false -> (U64 (limb v1 0) /\ U64 (limb v1 1) /\ U64 (limb v1 2) /\ U64 (limb v1 3) /\ U64 (limb v2 0) /\ U64 (limb v2 1) /\ U64 (limb v2 2) /\ U64 (limb v2 3)) /\ ∀ v7, v7 = onP (val4 (limb v1 0) (limb v1 1) (limb v1 2) (limb v1 3)) (val4 (limb v2 0) (limb v2 1) (limb v2 2) (limb v2 3)) false -> ∀ (v8 : Bool), v8 = !v7 -> (v8 = false -> (U64 ax0 /\ U64 ax1 /\ U64 ax2 /\ U64 ax3 /\ U64 ay0 /\ U64 ay1 /\ U64 ay2 /\ U64 ay3) /\ ∀ v9, v9 = onP (val4 ax0 ax1 ax2 ax3) (val4 ay0 ay1 ay2 ay3) ai -> ∀ (v10 : Bool), v10 = !v9 -> (v10 = true -> True /\ true = true) /\ (v10 = false -> (U64 ax0 /\ U64 ax1 /\ U64 ax2 /\ U64 ax3 /\ U64 ay0 /\ U64 ay1 /\ U64 ay2 /\ U64 ay3) /\ ∀ (v11 : ByteArray), v11 = encF ai (val4 ax0 ax1 ax2 ax3) (val4 ay0 ay1 ay2 ay3) -> v11.size ≤ 140737488351232 /\ ∀ v12, v12 = decX v11 -> ∀ v13, v13 = decY v11 -> ∀ v14, v14 = decE v11 -> (ai = true -> ∀ v15, v15 = (v14 == (11 : Int)) -> (v15 = false -> ∀ (v16 : Bool), v16 = !ai -> (v16 = true -> ∀ v17, v17 = (limb v12 0 == ax0 && (limb v12 1 == ax1 && (limb v12 2 == ax2 && (limb v12 3 == ax3 && true))) && (limb v13 0 == ay0 && (limb v13 1 == ay1 && (limb v13 2 == ay2 && (limb v13 3 == ay3 && true))) && (false == ai && true))) -> (v17 = true -> ∀ v18, v18 = (v14 == (0 : Int)) -> (v18 = true -> True /\ true = true) /\ (v18 = false -> false = true)) /\ (v17 = false -> false = true)) /\ (v16 = false -> false = true)) /\ (v15 = true -> True /\ true = true)) /\ (ai = false -> ∀ (v19 : Bool), v19 = !ai -> (v19 = true -> ∀ v20, v20 = (limb v12 0 == ax0 && (limb v12 1 == ax1 && (limb v12 2 == ax2 && (limb v12 3 == ax3 && true))) && (limb v13 0 == ay0 && (limb v13 1 == ay1 && (limb v13 2 == ay2 && (limb v13 3 == ay3 && true))) && (false == ai && true))) -> (v20 = true -> ∀ v21, v21 = (v14 == (0 : Int)) -> (v21 = true -> True /\ true = true) /\ (v21 = false -> false = true)) /\ (v20 = false -> false = true)) /\ (v19 = false -> false = true)))) /\ (v8 = true -> false = true)) /\ (v6 = true -> false = true)) /\ (v4 = false -> (U64 ax0 /\ U64 ax1 /\ U64 ax2 /\ U64 ax3 /\ U64 ay0 /\ U64 ay1 /\ U64 ay2 /\ U64 ay3) /\ ∀ v22, v22 = onP (val4 ax0 ax1 ax2 ax3) (val4 ay0 ay1 ay2 ay3) ai -> ∀ (v23 : Bool), v23 = !v22 -> (v23 = true -> True /\ true = true) /\ (v23 = false -> (U64 ax0 /\ U64 ax1 /\ U64 ax2 /\ U64 ax3 /\ U64 ay0 /\ U64 ay1 /\ U64 ay2 /\ U64 ay3) /\ ∀ (v24 : ByteArray), v24 = encF ai (val4 ax0 ax1 ax2 ax3) (val4 ay0 ay1 ay2 ay3) -> v24.size ≤ 140737488351232 /\ ∀ v25, v25 = decX v24 -> ∀ v26, v26 = decY v24 -> ∀ v27, v27 = decE v24 -> (ai = true -> ∀ v28, v28 = (v27 == (11 : Int)) -> (v28 = false -> ∀ (v29 : Bool), v29 = !ai -> (v29 = true -> ∀ v30, v30 = (limb v25 0 == ax0 && (limb v25 1 == ax1 && (limb v25 2 == ax2 && (limb v25 3 == ax3 && true))) && (limb v26 0 == ay0 && (limb v26 1 == ay1 && (limb v26 2 == ay2 && (limb v26 3 == ay3 && true))) && (false == ai && true))) -> (v30 = true -> ∀ v31, v31 = (v27 == (0 : Int)) -> (v31 = true -> True /\ true = true) /\ (v31 = false -> false = true)) /\ (v30 = false -> false = true)) /\ (v29 = false -> false = true)) /\ (v28 = true -> True /\ true = true)) /\ (ai = false -> ∀ (v32 : Bool), v32 = !ai -> (v32 = true -> ∀ v33, v33 = (limb v25 0 == ax0 && (limb v25 1 == ax1 && (limb v25 2 == ax2 && (limb v25 3 == ax3 && true))) && (limb v26 0 == ay0 && (limb v26 1 == ay1 && (limb v26 2 == ay2 && (limb v26 3 == ay3 && true))) && (false == ai && true))) -> (v33 = true -> ∀ v34, v34 = (v27 == (0 : Int)) -> (v34 = true -> True /\ true = true) /\ (v34 = false -> false = true)) /\ (v33 = false -> false = true)) /\ (v32 = false -> false = true))))
theorem tiePointBack (w0 : World) (ax0 : Int) (ax1 : Int) (ax2 : Int) (ax3 : Int) (ay0 : Int) (ay1 : Int) (ay2 : Int) (ay3 : Int) (ai : Bool) (s : ByteArray) : VCPointBack ax0 ax1 ax2 ax3 ay0 ay1 ay2 ay3 ai s = ((recN (GC Try.prog pt17Spec w0) 60).call 13 [.agg [.int .u64 (.sym ax0), .int .u64 (.sym ax1), .int .u64 (.sym ax2), .int .u64 (.sym ax3), .int .u64 (.sym ay0), .int .u64 (.sym ay1), .int .u64 (.sym ay2), .int .u64 (.sym ay3), .bool (.sym ai)], .str (.sym s)] [] (fun v _ => isTrue v)) := by kernel_rfl
theorem purePointBack (ax0 ax1 ax2 ax3 ay0 ay1 ay2 ay3 : Int) (ai : Bool) (s : ByteArray) (h : U64 ax0 ∧ U64 ax1 ∧ U64 ax2 ∧ U64 ax3 ∧ U64 ay0 ∧ U64 ay1 ∧ U64 ay2 ∧ U64 ay3 ∧ (s.size ≤ 140737488351232)) : VCPointBack ax0 ax1 ax2 ax3 ay0 ay1 ay2 ay3 ai s := by
  obtain ⟨hax0, hax1, hax2, hax3, hay0, hay1, hay2, hay3, hs⟩ := h
  have eax0 : U64 ax0 = True := eq_true hax0
  have eax1 : U64 ax1 = True := eq_true hax1
  have eax2 : U64 ax2 = True := eq_true hax2
  have eax3 : U64 ax3 = True := eq_true hax3
  have eay0 : U64 ay0 = True := eq_true hay0
  have eay1 : U64 ay1 = True := eq_true hay1
  have eay2 : U64 ay2 = True := eq_true hay2
  have eay3 : U64 ay3 = True := eq_true hay3
  have es : (s.size ≤ 140737488351232) = True := eq_true hs
  have L : ∀ x j, U64 (limb x j) = True := fun x j => eq_true (limb_in x j)
  have lX : val4 (limb (decX s) 0) (limb (decX s) 1) (limb (decX s) 2) (limb (decX s) 3) = decX s := by
    unfold decX; split
    · exact lBd (beF_in _)
    · decide
  have lY : val4 (limb (decY s) 0) (limb (decY s) 1) (limb (decY s) 2) (limb (decY s) 3) = decY s := by
    unfold decY; split
    · exact lBd (beF_in _)
    · decide
  have nax := val4_lt hax0 hax1 hax2 hax3
  have nay := val4_lt hay0 hay1 hay2 hay3
  obtain ⟨lax0, lax1, lax2, lax3⟩ := limbs4' hax0 hax1 hax2 hax3
  obtain ⟨lay0, lay1, lay2, lay3⟩ := limbs4' hay0 hay1 hay2 hay3
  have ee : ∀ X Y, ((encF ai X Y).size ≤ 140737488351232) = True := fun X Y => eq_true (by
    cases ai with
    | true => show (bytesL []).size ≤ _; decide
    | false => rw [encF_sz]; decide)
  have back : ∀ (o : onP (val4 ax0 ax1 ax2 ax3) (val4 ay0 ay1 ay2 ay3) ai = true), (ai = true → decE (encF ai (val4 ax0 ax1 ax2 ax3) (val4 ay0 ay1 ay2 ay3)) = 11) ∧ (ai = false → decE (encF ai (val4 ax0 ax1 ax2 ax3) (val4 ay0 ay1 ay2 ay3)) = 0 ∧ decX (encF ai (val4 ax0 ax1 ax2 ax3) (val4 ay0 ay1 ay2 ay3)) = val4 ax0 ax1 ax2 ax3 ∧ decY (encF ai (val4 ax0 ax1 ax2 ax3) (val4 ay0 ay1 ay2 ay3)) = val4 ay0 ay1 ay2 ay3) := fun o => by
    refine ⟨fun e => ?_, fun e => ?_⟩
    · subst e; rfl
    · subst e; exact dec_enc nax nay o
  unfold VCPointBack
  simp only [forall_eq, es, ee, L, lX, lY, eax0, eax1, eax2, eax3, eay0, eay1, eay2, eay3, true_and]
  generalize hO : onP (val4 ax0 ax1 ax2 ax3) (val4 ay0 ay1 ay2 ay3) ai = O at *
  cases O with
  | false =>
    simp only [Bool.not_false, reduceCtorEq, false_implies, forall_const, and_self]
    refine ⟨fun z => ?_, fun _ => trivial⟩
    have z : decE s = 0 := by simpa using z
    rw [enc_dec z, ba_eq]
    have o := (dec_ok z).2.2
    rw [← show decX s = beF (s.extract 1 33) from if_pos z, ← show decY s = beF (s.extract 33 65) from if_pos z] at o
    simp [o]
  | true =>
    obtain ⟨b1, b2⟩ := back rfl
    cases ai with
    | true =>
      rw [b1 rfl]
      simp only [Bool.not_true, beq_self_eq_true, reduceCtorEq, false_implies, forall_const, and_self]
      refine ⟨fun z => ?_, fun _ => trivial⟩
      have z : decE s = 0 := by simpa using z
      rw [enc_dec z, ba_eq]
      have o := (dec_ok z).2.2
      rw [← show decX s = beF (s.extract 1 33) from if_pos z, ← show decY s = beF (s.extract 33 65) from if_pos z] at o
      simp [o]
    | false =>
      obtain ⟨c1, c2, c3⟩ := b2 rfl
      rw [c1, c2, c3, lax0, lax1, lax2, lax3, lay0, lay1, lay2, lay3]
      simp only [Bool.not_true, Bool.not_false, Bool.and_true, beq_self_eq_true, reduceCtorEq, false_implies, forall_const, and_self]
      refine ⟨fun z => ?_, fun _ => trivial⟩
      have z : decE s = 0 := by simpa using z
      rw [enc_dec z, ba_eq]
      have o := (dec_ok z).2.2
      rw [← show decX s = beF (s.extract 1 33) from if_pos z, ← show decY s = beF (s.extract 33 65) from if_pos z] at o
      simp [o]
theorem walkPointBack (ax0 : Int) (ax1 : Int) (ax2 : Int) (ax3 : Int) (ay0 : Int) (ay1 : Int) (ay2 : Int) (ay3 : Int) (ai : Bool) (s : ByteArray) (w0 : World) (hax0 : (Lit.int .u64 ax0).wf = true) (hax1 : (Lit.int .u64 ax1).wf = true) (hax2 : (Lit.int .u64 ax2).wf = true) (hax3 : (Lit.int .u64 ax3).wf = true) (hay0 : (Lit.int .u64 ay0).wf = true) (hay1 : (Lit.int .u64 ay1).wf = true) (hay2 : (Lit.int .u64 ay2).wf = true) (hay3 : (Lit.int .u64 ay3).wf = true) (hs : s.size ≤ 140737488351232) : Calls Try.prog 13 #[.agg #[.int .u64 ax0, .int .u64 ax1, .int .u64 ax2, .int .u64 ax3, .int .u64 ay0, .int .u64 ay1, .int .u64 ay2, .int .u64 ay3, .bool ai], .string s] w0 fun e w' => e = .returned (.bool true) ∧ Below w0.heap.size w0 w' :=
  law_tie (G := GC Try.prog pt17Spec w0) (gok w0 namesOk_ mixed_ pt17_ok) (n := 60) (f := 13) (args := [.agg [.int .u64 (.sym ax0), .int .u64 (.sym ax1), .int .u64 (.sym ax2), .int .u64 (.sym ax3), .int .u64 (.sym ay0), .int .u64 (.sym ay1), .int .u64 (.sym ay2), .int .u64 (.sym ay3), .bool (.sym ai)], .str (.sym s)]) (by kernel_rfl) (VCPointBack ax0 ax1 ax2 ax3 ay0 ay1 ay2 ay3 ai s) (tiePointBack w0 ax0 ax1 ax2 ax3 ay0 ay1 ay2 ay3 ai s) (purePointBack ax0 ax1 ax2 ax3 ay0 ay1 ay2 ay3 ai s ⟨wf_u64 hax0, wf_u64 hax1, wf_u64 hax2, wf_u64 hax3, wf_u64 hay0, wf_u64 hay1, wf_u64 hay2, wf_u64 hay3, hs⟩)

end Go.Proofs.Ytaaobpalpcdlbaa.Bits
