import Derived.Test.YtaaobpalpcdlbaaSxN
import Derived.Test.YtaaobpalpcdlbaaSxP
import Derived.Test.YtaaobpalpcdlbaaSxR
import Derived.Test.YtaaobpalpcdlbaaProg
import Derived.Test.YtaaobpalpcdlbaaPt13
import Derived.KernelRfl
namespace Go.Proofs.Ytaaobpalpcdlbaa.Bits
open Go Go.Sx Go.RowKit Go.EC
set_option linter.unusedVariables false
set_option maxRecDepth 100000
def pt14Spec : List (FuncId × CSpec) := [(56, pAddSpec), (64, pNegSpec), (55, pMulSpec), (53, rOnSpec), (30, rAddSpec), (54, awake4Spec)]
theorem pt14_ok : SpecsOk Try.prog pt14Spec := ⟨pAdd_ok, pNeg_ok, pMul_ok, rOn_ok, rAdd_ok, awake4_ok, trivial⟩
theorem c_inB (Q : Pt p256) : (0 ≤ cX Q ∧ cX Q < 115792089237316195423570985008687907853269984665640564039457584007913129639936) ∧ (0 ≤ cY Q ∧ cY Q < 115792089237316195423570985008687907853269984665640564039457584007913129639936) := by
  have h : inP (cX Q) ∧ inP (cY Q) := by
    cases Q with
    | O => exact ⟨by decide, by decide⟩
    | A x y => exact ⟨val_in x, val_in y⟩
  obtain ⟨⟨h0, h1⟩, ⟨k0, k1⟩⟩ := h
  have h1 : cX Q < 115792089210356248762697446949407573530086143415290314195533631308867097853951 := h1
  have k1 : cY Q < 115792089210356248762697446949407573530086143415290314195533631308867097853951 := k1
  omega
theorem lcX (Q : Pt p256) : val4 (limb (cX Q) 0) (limb (cX Q) 1) (limb (cX Q) 2) (limb (cX Q) 3) = cX Q := lBd (c_inB Q).1
theorem lcY (Q : Pt p256) : val4 (limb (cY Q) 0) (limb (cY Q) 1) (limb (cY Q) 2) (limb (cY Q) 3) = cY Q := lBd (c_inB Q).2
theorem sumP {A B : Pt p256} (hA : C256.on A) (hB : C256.on B) : pnX (plI (soF (cB A) (cX A) (cY A)) (soF (cB B) (cX B) (cY B))) = cX (C256.add A B) ∧ pnY (plI (soF (cB A) (cX A) (cY A)) (soF (cB B) (cX B) (cY B))) = cY (C256.add A B) ∧ pnB (plI (soF (cB A) (cX A) (cY A)) (soF (cB B) (cX B) (cY B))) = cB (C256.add A B) := pn_RI ((so_c hA).plus (so_c hB))
theorem sumN {A : Pt p256} (hA : C256.on A) : pnX (plI (soF (cB A) (cX A) (cY A)) (soF (cB A) (cX A) (cY A.neg))) = cX .O ∧ pnY (plI (soF (cB A) (cX A) (cY A)) (soF (cB A) (cX A) (cY A.neg))) = cY .O ∧ pnB (plI (soF (cB A) (cX A) (cY A)) (soF (cB A) (cX A) (cY A.neg))) = cB .O := by
  have := sumP hA (C256.on_neg hA)
  rwa [(neg_c2 A).1, (neg_c2 A).2, C256.add_neg] at this
theorem sumO {A : Pt p256} (hA : C256.on A) : pnX (plI (soF (cB A) (cX A) (cY A)) (0, 1, 0)) = cX A ∧ pnY (plI (soF (cB A) (cX A) (cY A)) (0, 1, 0)) = cY A ∧ pnB (plI (soF (cB A) (cX A) (cY A)) (0, 1, 0)) = cB A := by
  have := pn_RI ((so_c hA).plus RI.O)
  rwa [C256.add_O] at this
theorem pt_of {X Y : Int} {i : Bool} (h : onP X Y i = true) (hx : 0 ≤ X) (hy : 0 ≤ Y) : ∃ A, C256.on A ∧ X = cX A ∧ Y = cY A ∧ i = cB A := ⟨_, on_pP h, c_pP h hx hy⟩
theorem cO : cX .O = 0 ∧ cY .O = 0 ∧ cB .O = true := ⟨rfl, rfl, rfl⟩
theorem nt_of {b v : Bool} (h : v = !b) (z : v = false) : b = true := by subst h; simpa using z
def VCPointGroup (ax0 : Int) (ax1 : Int) (ax2 : Int) (ax3 : Int) (ay0 : Int) (ay1 : Int) (ay2 : Int) (ay3 : Int) (ai : Bool) (bx0 : Int) (bx1 : Int) (bx2 : Int) (bx3 : Int) (by0 : Int) (by1 : Int) (by2 : Int) (by3 : Int) (bi : Bool) (dx0 : Int) (dx1 : Int) (dx2 : Int) (dx3 : Int) (dy0 : Int) (dy1 : Int) (dy2 : Int) (dy3 : Int) (di : Bool) : Prop :=
  (U64 ax0 /\ U64 ax1 /\ U64 ax2 /\ U64 ax3 /\ U64 ay0 /\ U64 ay1 /\ U64 ay2 /\ U64 ay3) /\ ∀ v1, v1 = onP (val4 ax0 ax1 ax2 ax3) (val4 ay0 ay1 ay2 ay3) ai -> ∀ (v2 : Bool), v2 = !v1 -> (v2 = false -> (U64 bx0 /\ U64 bx1 /\ U64 bx2 /\ U64 bx3 /\ U64 by0 /\ U64 by1 /\ U64 by2 /\ U64 by3) /\ ∀ v3, v3 = onP (val4 bx0 bx1 bx2 bx3) (val4 by0 by1 by2 by3) bi -> ∀ (v4 : Bool), v4 = !v3 -> (v4 = false -> (U64 dx0 /\ U64 dx1 /\ U64 dx2 /\ U64 dx3 /\ U64 dy0 /\ U64 dy1 /\ U64 dy2 /\ U64 dy3) /\ ∀ v5, v5 = onP (val4 dx0 dx1 dx2 dx3) (val4 dy0 dy1 dy2 dy3) di -> ∀ (v6 : Bool), v6 = !v5 -> (v6 = true -> True /\ true = true) /\ (v6 = false -> (U64 ax0 /\ U64 ax1 /\ U64 ax2 /\ U64 ax3 /\ U64 ay0 /\ U64 ay1 /\ U64 ay2 /\ U64 ay3 /\ U64 bx0 /\ U64 bx1 /\ U64 bx2 /\ U64 bx3 /\ U64 by0 /\ U64 by1 /\ U64 by2 /\ U64 by3) /\ ∀ v7, v7 = pnX (plI (soF ai (val4 ax0 ax1 ax2 ax3) (val4 ay0 ay1 ay2 ay3)) (soF bi (val4 bx0 bx1 bx2 bx3) (val4 by0 by1 by2 by3))) -> ∀ v8, v8 = pnY (plI (soF ai (val4 ax0 ax1 ax2 ax3) (val4 ay0 ay1 ay2 ay3)) (soF bi (val4 bx0 bx1 bx2 bx3) (val4 by0 by1 by2 by3))) -> ∀ v9, v9 = pnB (plI (soF ai (val4 ax0 ax1 ax2 ax3) (val4 ay0 ay1 ay2 ay3)) (soF bi (val4 bx0 bx1 bx2 bx3) (val4 by0 by1 by2 by3))) -> (U64 (limb v7 0) /\ U64 (limb v7 1) /\ U64 (limb v7 2) /\ U64 (limb v7 3) /\ U64 (limb v8 0) /\ U64 (limb v8 1) /\ U64 (limb v8 2) /\ U64 (limb v8 3)) /\ ∀ v10, v10 = onP (val4 (limb v7 0) (limb v7 1) (limb v7 2) (limb v7 3)) (val4 (limb v8 0) (limb v8 1) (limb v8 2) (limb v8 3)) v9 -> (v10 = true -> (U64 bx0 /\ U64 bx1 /\ U64 bx2 /\ U64 bx3 /\ U64 by0 /\ U64 by1 /\ U64 by2 /\ U64 by3 /\ U64 ax0 /\ U64 ax1 /\ U64 ax2 /\ U64 ax3 /\ U64 ay0 /\ U64 ay1 /\ U64 ay2 /\ U64 ay3) /\ ∀ v11, v11 = pnX (plI (soF bi (val4 bx0 bx1 bx2 bx3) (val4 by0 by1 by2 by3)) (soF ai (val4 ax0 ax1 ax2 ax3) (val4 ay0 ay1 ay2 ay3))) -> ∀ v12, v12 = pnY (plI (soF bi (val4 bx0 bx1 bx2 bx3) (val4 by0 by1 by2 by3)) (soF ai (val4 ax0 ax1 ax2 ax3) (val4 ay0 ay1 ay2 ay3))) -> ∀ v13, v13 = pnB (plI (soF bi (val4 bx0 bx1 bx2 bx3) (val4 by0 by1 by2 by3)) (soF ai (val4 ax0 ax1 ax2 ax3) (val4 ay0 ay1 ay2 ay3))) -> ∀ v14, v14 = (limb v7 0 == limb v11 0 && (limb v7 1 == limb v11 1 && (limb v7 2 == limb v11 2 && (limb v7 3 == limb v11 3 && true))) && (limb v8 0 == limb v12 0 && (limb v8 1 == limb v12 1 && (limb v8 2 == limb v12 2 && (limb v8 3 == limb v12 3 && true))) && (v9 == v13 && true))) -> (v14 = true -> (U64 (limb v7 0) /\ U64 (limb v7 1) /\ U64 (limb v7 2) /\ U64 (limb v7 3) /\ U64 (limb v8 0) /\ U64 (limb v8 1) /\ U64 (limb v8 2) /\ U64 (limb v8 3) /\ U64 dx0 /\ U64 dx1 /\ U64 dx2 /\ U64 dx3 /\ U64 dy0 /\ U64 dy1 /\ U64 dy2 /\ U64 dy3) /\ ∀ v15, v15 = pnX (plI (soF v9 (val4 (limb v7 0) (limb v7 1) (limb v7 2) (limb v7 3)) (val4 (limb v8 0) (limb v8 1) (limb v8 2) (limb v8 3))) (soF di (val4 dx0 dx1 dx2 dx3) (val4 dy0 dy1 dy2 dy3))) -> ∀ v16, v16 = pnY (plI (soF v9 (val4 (limb v7 0) (limb v7 1) (limb v7 2) (limb v7 3)) (val4 (limb v8 0) (limb v8 1) (limb v8 2) (limb v8 3))) (soF di (val4 dx0 dx1 dx2 dx3) (val4 dy0 dy1 dy2 dy3))) -> ∀ v17, v17 = pnB (plI (soF v9 (val4 (limb v7 0) (limb v7 1) (limb v7 2) (limb v7 3)) (val4 (limb v8 0) (limb v8 1) (limb v8 2) (limb v8 3))) (soF di (val4 dx0 dx1 dx2 dx3) (val4 dy0 dy1 dy2 dy3))) -> (U64 bx0 /\ U64 bx1 /\ U64 bx2 /\ U64 bx3 /\ U64 by0 /\ U64 by1 /\ U64 by2 /\ U64 by3 /\ U64 dx0 /\ U64 dx1 /\ U64 dx2 /\ U64 dx3 /\ U64 dy0 /\ U64 dy1 /\ U64 dy2 /\ U64 dy3) /\ ∀ v18, v18 = pnX (plI (soF bi (val4 bx0 bx1 bx2 bx3) (val4 by0 by1 by2 by3)) (soF di (val4 dx0 dx1 dx2 dx3) (val4 dy0 dy1 dy2 dy3))) -> ∀ v19, v19 = pnY (plI (soF bi (val4 bx0 bx1 bx2 bx3) (val4 by0 by1 by2 by3)) (soF di (val4 dx0 dx1 dx2 dx3) (val4 dy0 dy1 dy2 dy3))) -> ∀ v20, v20 = pnB (plI (soF bi (val4 bx0 bx1 bx2 bx3) (val4 by0 by1 by2 by3)) (soF di (val4 dx0 dx1 dx2 dx3) (val4 dy0 dy1 dy2 dy3))) -> (U64 ax0 /\ U64 ax1 /\ U64 ax2 /\ U64 ax3 /\ U64 ay0 /\ U64 ay1 /\ U64 ay2 /\ U64 ay3 /\ U64 (limb v18 0) /\ U64 (limb v18 1) /\ U64 (limb v18 2) /\ U64 (limb v18 3) /\ U64 (limb v19 0) /\ U64 (limb v19 1) /\ U64 (limb v19 2) /\ U64 (limb v19 3)) /\ ∀ v21, v21 = pnX (plI (soF ai (val4 ax0 ax1 ax2 ax3) (val4 ay0 ay1 ay2 ay3)) (soF v20 (val4 (limb v18 0) (limb v18 1) (limb v18 2) (limb v18 3)) (val4 (limb v19 0) (limb v19 1) (limb v19 2) (limb v19 3)))) -> ∀ v22, v22 = pnY (plI (soF ai (val4 ax0 ax1 ax2 ax3) (val4 ay0 ay1 ay2 ay3)) (soF v20 (val4 (limb v18 0) (limb v18 1) (limb v18 2) (limb v18 3)) (val4 (limb v19 0) (limb v19 1) (limb v19 2) (limb v19 3)))) -> ∀ v23, v23 = pnB (plI (soF ai (val4 ax0 ax1 ax2 ax3) (val4 ay0 ay1 ay2 ay3)) (soF v20 (val4 (limb v18 0) (limb v18 1) (limb v18 2) (limb v18 3)) (val4 (limb v19 0) (limb v19 1) (limb v19 2) (limb v19 3)))) -> ∀ v24, v24 = (limb v15 0 == limb v21 0 && (limb v15 1 == limb v21 1 && (limb v15 2 == limb v21 2 && (limb v15 3 == limb v21 3 && true))) && (limb v16 0 == limb v22 0 && (limb v16 1 == limb v22 1 && (limb v16 2 == limb v22 2 && (limb v16 3 == limb v22 3 && true))) && (v17 == v23 && true))) -> (v24 = true -> (U64 ax0 /\ U64 ax1 /\ U64 ax2 /\ U64 ax3 /\ U64 ay0 /\ U64 ay1 /\ U64 ay2 /\ U64 ay3) /\ ∀ v25, v25 = ax0 -> ∀ v26, v26 = ax1 -> ∀ v27, v27 = ax2 -> ∀ v28, v28 = ax3 -> ∀ v29, v29 = sI (0 : Int) (val4 ay0 ay1 ay2 ay3) -> ∀ v30, v30 = ai -> (U64 ax0 /\ U64 ax1 /\ U64 ax2 /\ U64 ax3 /\ U64 ay0 /\ U64 ay1 /\ U64 ay2 /\ U64 ay3 /\ U64 v25 /\ U64 v26 /\ U64 v27 /\ U64 v28 /\ U64 (limb v29 0) /\ U64 (limb v29 1) /\ U64 (limb v29 2) /\ U64 (limb v29 3)) /\ ∀ v31, v31 = pnX (plI (soF ai (val4 ax0 ax1 ax2 ax3) (val4 ay0 ay1 ay2 ay3)) (soF v30 (val4 v25 v26 v27 v28) (val4 (limb v29 0) (limb v29 1) (limb v29 2) (limb v29 3)))) -> ∀ v32, v32 = pnY (plI (soF ai (val4 ax0 ax1 ax2 ax3) (val4 ay0 ay1 ay2 ay3)) (soF v30 (val4 v25 v26 v27 v28) (val4 (limb v29 0) (limb v29 1) (limb v29 2) (limb v29 3)))) -> ∀ v33, v33 = pnB (plI (soF ai (val4 ax0 ax1 ax2 ax3) (val4 ay0 ay1 ay2 ay3)) (soF v30 (val4 v25 v26 v27 v28) (val4 (limb v29 0) (limb v29 1) (limb v29 2) (limb v29 3)))) -> ∀ v34, v34 = (limb v31 0 == (0 : Int) && (limb v31 1 == (0 : Int) && (limb v31 2 == (0 : Int) && (limb v31 3 == (0 : Int) && true))) && (limb v32 0 == (0 : Int) && (limb v32 1 == (0 : Int) && (limb v32 2 == (0 : Int) && (limb v32 3 == (0 : Int) && true))) && (v33 == true && true))) -> (v34 = true -> (U64 ax0 /\ U64 ax1 /\ U64 ax2 /\ U64 ax3 /\ U64 ay0 /\ U64 ay1 /\ U64 ay2 /\ U64 ay3 /\ U64 0 /\ U64 0 /\ U64 0 /\ U64 0 /\ U64 0 /\ U64 0 /\ U64 0 /\ U64 0) /\ ∀ v35, v35 = pnX (plI (soF ai (val4 ax0 ax1 ax2 ax3) (val4 ay0 ay1 ay2 ay3)) (soF true (0 : Int) (0 : Int))) -> ∀ v36, v36 = pnY (plI (soF ai (val4 ax0 ax1 ax2 ax3) (val4 ay0 ay1 ay2 ay3)) (soF true (0 : Int) (0 : Int))) -> ∀ v37, v37 = pnB (plI (soF ai (val4 ax0 ax1 ax2 ax3) (val4 ay0 ay1 ay2 ay3)) (soF true (0 : Int) (0 : Int))) -> ∀ v38, v38 = (limb v35 0 == ax0 && (limb v35 1 == ax1 && (limb v35 2 == ax2 && (limb v35 3 == ax3 && true))) && (limb v36 0 == ay0 && (limb v36 1 == ay1 && (limb v36 2 == ay2 && (limb v36 3 == ay3 && true))) && (v37 == ai && true))) -> (v38 = true -> True /\ true = true) /\ (v38 = false -> false = true)) /\ (v34 = false -> false = true)) /\ (v24 = false -> false = true)) /\ (v14 = false -> false = true)) /\ (v10 = false -> false = true))) /\ (v4 = true -> True /\ true = true)) /\ (v2 = true -> True /\ true = true)
theorem tiePointGroup (w0 : World) (ax0 : Int) (ax1 : Int) (ax2 : Int) (ax3 : Int) (ay0 : Int) (ay1 : Int) (ay2 : Int) (ay3 : Int) (ai : Bool) (bx0 : Int) (bx1 : Int) (bx2 : Int) (bx3 : Int) (by0 : Int) (by1 : Int) (by2 : Int) (by3 : Int) (bi : Bool) (dx0 : Int) (dx1 : Int) (dx2 : Int) (dx3 : Int) (dy0 : Int) (dy1 : Int) (dy2 : Int) (dy3 : Int) (di : Bool) : VCPointGroup ax0 ax1 ax2 ax3 ay0 ay1 ay2 ay3 ai bx0 bx1 bx2 bx3 by0 by1 by2 by3 bi dx0 dx1 dx2 dx3 dy0 dy1 dy2 dy3 di = ((recN (GC Try.prog pt14Spec w0) 60).call 15 [.agg [.int .u64 (.sym ax0), .int .u64 (.sym ax1), .int .u64 (.sym ax2), .int .u64 (.sym ax3), .int .u64 (.sym ay0), .int .u64 (.sym ay1), .int .u64 (.sym ay2), .int .u64 (.sym ay3), .bool (.sym ai)], .agg [.int .u64 (.sym bx0), .int .u64 (.sym bx1), .int .u64 (.sym bx2), .int .u64 (.sym bx3), .int .u64 (.sym by0), .int .u64 (.sym by1), .int .u64 (.sym by2), .int .u64 (.sym by3), .bool (.sym bi)], .agg [.int .u64 (.sym dx0), .int .u64 (.sym dx1), .int .u64 (.sym dx2), .int .u64 (.sym dx3), .int .u64 (.sym dy0), .int .u64 (.sym dy1), .int .u64 (.sym dy2), .int .u64 (.sym dy3), .bool (.sym di)]] [] (fun v _ => isTrue v)) := by kernel_rfl
theorem purePointGroup (ax0 ax1 ax2 ax3 ay0 ay1 ay2 ay3 : Int) (ai : Bool) (bx0 bx1 bx2 bx3 by0 by1 by2 by3 : Int) (bi : Bool) (dx0 dx1 dx2 dx3 dy0 dy1 dy2 dy3 : Int) (di : Bool) (h : U64 ax0 ∧ U64 ax1 ∧ U64 ax2 ∧ U64 ax3 ∧ U64 ay0 ∧ U64 ay1 ∧ U64 ay2 ∧ U64 ay3 ∧ U64 bx0 ∧ U64 bx1 ∧ U64 bx2 ∧ U64 bx3 ∧ U64 by0 ∧ U64 by1 ∧ U64 by2 ∧ U64 by3 ∧ U64 dx0 ∧ U64 dx1 ∧ U64 dx2 ∧ U64 dx3 ∧ U64 dy0 ∧ U64 dy1 ∧ U64 dy2 ∧ U64 dy3) : VCPointGroup ax0 ax1 ax2 ax3 ay0 ay1 ay2 ay3 ai bx0 bx1 bx2 bx3 by0 by1 by2 by3 bi dx0 dx1 dx2 dx3 dy0 dy1 dy2 dy3 di := by
  obtain ⟨hax0, hax1, hax2, hax3, hay0, hay1, hay2, hay3, hbx0, hbx1, hbx2, hbx3, hby0, hby1, hby2, hby3, hdx0, hdx1, hdx2, hdx3, hdy0, hdy1, hdy2, hdy3⟩ := h
  have eax0 : U64 ax0 = True := eq_true hax0
  have eax1 : U64 ax1 = True := eq_true hax1
  have eax2 : U64 ax2 = True := eq_true hax2
  have eax3 : U64 ax3 = True := eq_true hax3
  have eay0 : U64 ay0 = True := eq_true hay0
  have eay1 : U64 ay1 = True := eq_true hay1
  have eay2 : U64 ay2 = True := eq_true hay2
  have eay3 : U64 ay3 = True := eq_true hay3
  have ebx0 : U64 bx0 = True := eq_true hbx0
  have ebx1 : U64 bx1 = True := eq_true hbx1
  have ebx2 : U64 bx2 = True := eq_true hbx2
  have ebx3 : U64 bx3 = True := eq_true hbx3
  have eby0 : U64 by0 = True := eq_true hby0
  have eby1 : U64 by1 = True := eq_true hby1
  have eby2 : U64 by2 = True := eq_true hby2
  have eby3 : U64 by3 = True := eq_true hby3
  have edx0 : U64 dx0 = True := eq_true hdx0
  have edx1 : U64 dx1 = True := eq_true hdx1
  have edx2 : U64 dx2 = True := eq_true hdx2
  have edx3 : U64 dx3 = True := eq_true hdx3
  have edy0 : U64 dy0 = True := eq_true hdy0
  have edy1 : U64 dy1 = True := eq_true hdy1
  have edy2 : U64 dy2 = True := eq_true hdy2
  have edy3 : U64 dy3 = True := eq_true hdy3
  have nax := val4_lt hax0 hax1 hax2 hax3
  have nay := val4_lt hay0 hay1 hay2 hay3
  have nbx := val4_lt hbx0 hbx1 hbx2 hbx3
  have nby := val4_lt hby0 hby1 hby2 hby3
  have ndx := val4_lt hdx0 hdx1 hdx2 hdx3
  have ndy := val4_lt hdy0 hdy1 hdy2 hdy3
  obtain ⟨lax0, lax1, lax2, lax3⟩ := limbs4' hax0 hax1 hax2 hax3
  obtain ⟨lay0, lay1, lay2, lay3⟩ := limbs4' hay0 hay1 hay2 hay3
  refine ⟨⟨hax0, hax1, hax2, hax3, hay0, hay1, hay2, hay3⟩, fun v1 h1 v2 h2 => ⟨fun z2 => ⟨⟨hbx0, hbx1, hbx2, hbx3, hby0, hby1, hby2, hby3⟩, fun v3 h3 v4 h4 => ⟨fun z4 => ⟨⟨hdx0, hdx1, hdx2, hdx3, hdy0, hdy1, hdy2, hdy3⟩, fun v5 h5 v6 h6 => ⟨fun _ => ⟨trivial, rfl⟩, fun z6 => ?_⟩⟩, fun _ => ⟨trivial, rfl⟩⟩⟩, fun _ => ⟨trivial, rfl⟩⟩⟩
  obtain ⟨A, oA, xA, yA, iA⟩ := pt_of (h1.symm.trans (nt_of h2 z2)) nax.1 nay.1
  obtain ⟨B, oB, xB, yB, iB⟩ := pt_of (h3.symm.trans (nt_of h4 z4)) nbx.1 nby.1
  obtain ⟨D, oD, xD, yD, iD⟩ := pt_of (h5.symm.trans (nt_of h6 z6)) ndx.1 ndy.1
  clear h1 h2 h3 h4 h5 h6 z2 z4 z6
  subst iA; subst iB; subst iD
  rw [xA] at lax0 lax1 lax2 lax3
  rw [yA] at lay0 lay1 lay2 lay3
  have q0 : val4 0 0 0 0 = 0 := rfl
  have z0 : U64 0 = True := eq_true U64_0
  obtain ⟨s1, s2, s3⟩ := sumP oA oB
  obtain ⟨t1, t2, t3⟩ := sumP oB oA
  have oAB := C256.on_add oA oB
  have oBD := C256.on_add oB oD
  obtain ⟨u1, u2, u3⟩ := sumP oAB oD
  obtain ⟨w1, w2, w3⟩ := sumP oB oD
  obtain ⟨y1, y2, y3⟩ := sumP oA oBD
  obtain ⟨m1, m2, m3⟩ := sumN oA
  obtain ⟨k1, k2, k3⟩ := sumO oA
  simp only [forall_eq, ulP, eax0, eax1, eax2, eax3, eay0, eay1, eay2, eay3, ebx0, ebx1, ebx2, ebx3, eby0, eby1, eby2, eby3, edx0, edx1, edx2, edx3, edy0, edy1, edy2, edy3, z0, q0, xA, yA, xB, yB, xD, yD, lcX, lcY, neg_c oA, so_true, s1, s2, s3, t1, t2, t3, u1, u2, u3, w1, w2, w3, y1, y2, y3, m1, m2, m3, k1, k2, k3, on_c oAB, C256.add_comm oB oA, C256.add_assoc oA oB oD, cO.1, cO.2.1, cO.2.2, limb0, lax0, lax1, lax2, lax3, lay0, lay1, lay2, lay3, beq_self_eq_true, Bool.and_self, Bool.and_true, true_and, and_true, reduceCtorEq, false_implies, forall_const, and_self]
theorem walkPointGroup (ax0 : Int) (ax1 : Int) (ax2 : Int) (ax3 : Int) (ay0 : Int) (ay1 : Int) (ay2 : Int) (ay3 : Int) (ai : Bool) (bx0 : Int) (bx1 : Int) (bx2 : Int) (bx3 : Int) (by0 : Int) (by1 : Int) (by2 : Int) (by3 : Int) (bi : Bool) (dx0 : Int) (dx1 : Int) (dx2 : Int) (dx3 : Int) (dy0 : Int) (dy1 : Int) (dy2 : Int) (dy3 : Int) (di : Bool) (w0 : World) (hax0 : (Lit.int .u64 ax0).wf = true) (hax1 : (Lit.int .u64 ax1).wf = true) (hax2 : (Lit.int .u64 ax2).wf = true) (hax3 : (Lit.int .u64 ax3).wf = true) (hay0 : (Lit.int .u64 ay0).wf = true) (hay1 : (Lit.int .u64 ay1).wf = true) (hay2 : (Lit.int .u64 ay2).wf = true) (hay3 : (Lit.int .u64 ay3).wf = true) (hbx0 : (Lit.int .u64 bx0).wf = true) (hbx1 : (Lit.int .u64 bx1).wf = true) (hbx2 : (Lit.int .u64 bx2).wf = true) (hbx3 : (Lit.int .u64 bx3).wf = true) (hby0 : (Lit.int .u64 by0).wf = true) (hby1 : (Lit.int .u64 by1).wf = true) (hby2 : (Lit.int .u64 by2).wf = true) (hby3 : (Lit.int .u64 by3).wf = true) (hdx0 : (Lit.int .u64 dx0).wf = true) (hdx1 : (Lit.int .u64 dx1).wf = true) (hdx2 : (Lit.int .u64 dx2).wf = true) (hdx3 : (Lit.int .u64 dx3).wf = true) (hdy0 : (Lit.int .u64 dy0).wf = true) (hdy1 : (Lit.int .u64 dy1).wf = true) (hdy2 : (Lit.int .u64 dy2).wf = true) (hdy3 : (Lit.int .u64 dy3).wf = true) : Calls Try.prog 15 #[.agg #[.int .u64 ax0, .int .u64 ax1, .int .u64 ax2, .int .u64 ax3, .int .u64 ay0, .int .u64 ay1, .int .u64 ay2, .int .u64 ay3, .bool ai], .agg #[.int .u64 bx0, .int .u64 bx1, .int .u64 bx2, .int .u64 bx3, .int .u64 by0, .int .u64 by1, .int .u64 by2, .int .u64 by3, .bool bi], .agg #[.int .u64 dx0, .int .u64 dx1, .int .u64 dx2, .int .u64 dx3, .int .u64 dy0, .int .u64 dy1, .int .u64 dy2, .int .u64 dy3, .bool di]] w0 fun e w' => e = .returned (.bool true) ∧ Below w0.heap.size w0 w' :=
  law_tie (G := GC Try.prog pt14Spec w0) (gok w0 namesOk_ mixed_ pt14_ok) (n := 60) (f := 15) (args := [.agg [.int .u64 (.sym ax0), .int .u64 (.sym ax1), .int .u64 (.sym ax2), .int .u64 (.sym ax3), .int .u64 (.sym ay0), .int .u64 (.sym ay1), .int .u64 (.sym ay2), .int .u64 (.sym ay3), .bool (.sym ai)], .agg [.int .u64 (.sym bx0), .int .u64 (.sym bx1), .int .u64 (.sym bx2), .int .u64 (.sym bx3), .int .u64 (.sym by0), .int .u64 (.sym by1), .int .u64 (.sym by2), .int .u64 (.sym by3), .bool (.sym bi)], .agg [.int .u64 (.sym dx0), .int .u64 (.sym dx1), .int .u64 (.sym dx2), .int .u64 (.sym dx3), .int .u64 (.sym dy0), .int .u64 (.sym dy1), .int .u64 (.sym dy2), .int .u64 (.sym dy3), .bool (.sym di)]]) (by kernel_rfl) (VCPointGroup ax0 ax1 ax2 ax3 ay0 ay1 ay2 ay3 ai bx0 bx1 bx2 bx3 by0 by1 by2 by3 bi dx0 dx1 dx2 dx3 dy0 dy1 dy2 dy3 di) (tiePointGroup w0 ax0 ax1 ax2 ax3 ay0 ay1 ay2 ay3 ai bx0 bx1 bx2 bx3 by0 by1 by2 by3 bi dx0 dx1 dx2 dx3 dy0 dy1 dy2 dy3 di) (purePointGroup ax0 ax1 ax2 ax3 ay0 ay1 ay2 ay3 ai bx0 bx1 bx2 bx3 by0 by1 by2 by3 bi dx0 dx1 dx2 dx3 dy0 dy1 dy2 dy3 di ⟨wf_u64 hax0, wf_u64 hax1, wf_u64 hax2, wf_u64 hax3, wf_u64 hay0, wf_u64 hay1, wf_u64 hay2, wf_u64 hay3, wf_u64 hbx0, wf_u64 hbx1, wf_u64 hbx2, wf_u64 hbx3, wf_u64 hby0, wf_u64 hby1, wf_u64 hby2, wf_u64 hby3, wf_u64 hdx0, wf_u64 hdx1, wf_u64 hdx2, wf_u64 hdx3, wf_u64 hdy0, wf_u64 hdy1, wf_u64 hdy2, wf_u64 hdy3⟩)

end Go.Proofs.Ytaaobpalpcdlbaa.Bits
