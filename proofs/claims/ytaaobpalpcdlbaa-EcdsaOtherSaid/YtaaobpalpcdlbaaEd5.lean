import Derived.Test.YtaaobpalpcdlbaaSxR
import Derived.Test.YtaaobpalpcdlbaaProg
import Derived.Test.YtaaobpalpcdlbaaEd3
import Derived.Test.YtaaobpalpcdlbaaEd7
import Derived.Test.YtaaobpalpcdlbaaEd6
import Derived.KernelRfl
namespace Go.Proofs.Ytaaobpalpcdlbaa.Bits
open Go Go.Sx Go.RowKit Go.EC
set_option linter.unusedVariables false
set_option maxRecDepth 100000
def ed5Spec : List (FuncId × CSpec) := [(66, ePublicSpec), (67, eSignSpec), (70, eCheckSpec), (72, eLowSpec), (68, rSecretSpec), (71, rFromBigSpec), (36, rRemSpec), (37, r2AddSpec), (38, r2SubSpec), (39, r2MulSpec), (30, rAddSpec), (25, rCmpSpec), (69, awake5Spec), (73, rLowSpec)]
theorem ed5_ok : SpecsOk Try.prog ed5Spec := ⟨ePublic_ok, eSign_ok, eCheck_ok, eLow_ok, rSecret_ok, rFromBig_ok, rRem_ok, r2Add_ok, r2Sub_ok, r2Mul_ok, rAdd_ok, rCmp_ok, awake5_ok, rLow_ok, trivial⟩
theorem lpub (d : Int) : val4 (limb (pubX d) 0) (limb (pubX d) 1) (limb (pubX d) 2) (limb (pubX d) 3) = pubX d ∧ val4 (limb (pubY d) 0) (limb (pubY d) 1) (limb (pubY d) 2) (limb (pubY d) 3) = pubY d := by
  unfold pubX pubY
  split
  · exact ⟨lcX _, lcY _⟩
  · decide +kernel
theorem pq (x : Int) : (limb (x % N2) 0 == 0 && (limb (x % N2) 1 == 0 && (limb (x % N2) 2 == 0 && (limb (x % N2) 3 == 0 && true)))) = decide (x % N2 = 0) := by
  rw [eq4 (limb_in _ _) (limb_in _ _) (limb_in _ _) (limb_in _ _) U64_0 U64_0 U64_0 U64_0, lmN]; rfl
theorem pr (x y : Int) : (limb (x % N2) 0 == limb (y % N2) 0 && (limb (x % N2) 1 == limb (y % N2) 1 && (limb (x % N2) 2 == limb (y % N2) 2 && (limb (x % N2) 3 == limb (y % N2) 3 && true)))) = decide (x % N2 = y % N2) := by
  rw [eq4 (limb_in _ _) (limb_in _ _) (limb_in _ _) (limb_in _ _) (limb_in _ _) (limb_in _ _) (limb_in _ _) (limb_in _ _), lmN, lmN]
def VCEcdsaHolds (d0 : Int) (d1 : Int) (d2 : Int) (d3 : Int) (b0 : Int) (b1 : Int) (b2 : Int) (b3 : Int) (t : ByteArray) (u : ByteArray) : Prop :=
  (U64 d0 /\ U64 d1 /\ U64 d2 /\ U64 d3) /\ ∀ v1, v1 = pubX (val4 d0 d1 d2 d3) -> ∀ v2, v2 = pubY (val4 d0 d1 d2 d3) -> ∀ v3, v3 = pubB (val4 d0 d1 d2 d3) -> ∀ v4, v4 = pubE (val4 d0 d1 d2 d3) -> (U64 d0 /\ U64 d1 /\ U64 d2 /\ U64 d3 /\ U64 b0 /\ U64 b1 /\ U64 b2 /\ U64 b3 /\ t.size ≤ 140737488355328) /\ ∀ v5, v5 = sgR (val4 d0 d1 d2 d3) (val4 b0 b1 b2 b3) t -> ∀ v6, v6 = sgS (val4 d0 d1 d2 d3) (val4 b0 b1 b2 b3) t -> ∀ v7, v7 = sgE (val4 d0 d1 d2 d3) (val4 b0 b1 b2 b3) t -> ∀ v8, v8 = (v4 == (0 : Int)) -> (U64 d0 /\ U64 d1 /\ U64 d2 /\ U64 d3) /\ ∀ v9, v9 = secF (val4 d0 d1 d2 d3) -> ∀ (v10 : Bool), v10 = !v8 == v9 -> (v10 = true -> false = true) /\ (v10 = false -> ∀ v11, v11 = (v4 != (0 : Int)) -> (v11 = false -> ∀ v12, v12 = (v7 != (0 : Int)) -> (v12 = true -> ∀ v13, v13 = (v7 != (0 : Int)) -> (v13 = true -> True /\ true = true) /\ (v13 = false -> false = true)) /\ (v12 = false -> (U64 (limb v1 0) /\ U64 (limb v1 1) /\ U64 (limb v1 2) /\ U64 (limb v1 3) /\ U64 (limb v2 0) /\ U64 (limb v2 1) /\ U64 (limb v2 2) /\ U64 (limb v2 3) /\ U64 (limb v5 0) /\ U64 (limb v5 1) /\ U64 (limb v5 2) /\ U64 (limb v5 3) /\ U64 (limb v6 0) /\ U64 (limb v6 1) /\ U64 (limb v6 2) /\ U64 (limb v6 3) /\ t.size ≤ 140737488355328) /\ ∀ v14, v14 = chE (val4 (limb v1 0) (limb v1 1) (limb v1 2) (limb v1 3)) (val4 (limb v2 0) (limb v2 1) (limb v2 2) (limb v2 3)) v3 t (val4 (limb v5 0) (limb v5 1) (limb v5 2) (limb v5 3)) (val4 (limb v6 0) (limb v6 1) (limb v6 2) (limb v6 3)) -> ∀ v15, v15 = (v14 != (0 : Int)) -> (v15 = true -> false = true) /\ (v15 = false -> t.size ≤ 140737488355328 /\ ∀ v16, v16 = beF t -> ∀ v17, v17 = erF ↑t.size (32 : Int) -> u.size ≤ 140737488355328 /\ ∀ v18, v18 = beF u -> ∀ v19, v19 = erF ↑u.size (32 : Int) -> ∀ v20, v20 = (v19 != (0 : Int)) -> (v20 = false -> (U64 (limb v16 0) /\ U64 (limb v16 1) /\ U64 (limb v16 2) /\ U64 (limb v16 3) /\ U64 0 /\ U64 0 /\ U64 0 /\ U64 0 /\ U64 17562291160714782033 /\ U64 13611842547513532036 /\ U64 18446744073709551615 /\ U64 18446744069414584320) /\ ∀ v21, v21 = rF (val4 (limb v16 0) (limb v16 1) (limb v16 2) (limb v16 3)) (0 : Int) (115792089210356248762697446949407573529996955224135760342422259061068512044369 : Int) -> (U64 (limb v18 0) /\ U64 (limb v18 1) /\ U64 (limb v18 2) /\ U64 (limb v18 3) /\ U64 0 /\ U64 0 /\ U64 0 /\ U64 0 /\ U64 17562291160714782033 /\ U64 13611842547513532036 /\ U64 18446744073709551615 /\ U64 18446744069414584320) /\ ∀ v22, v22 = rF (val4 (limb v18 0) (limb v18 1) (limb v18 2) (limb v18 3)) (0 : Int) (115792089210356248762697446949407573529996955224135760342422259061068512044369 : Int) -> ∀ v23, v23 = (limb v21 0 == limb v22 0 && (limb v21 1 == limb v22 1 && (limb v21 2 == limb v22 2 && (limb v21 3 == limb v22 3 && true)))) -> (v23 = true -> True /\ true = true) /\ (v23 = false -> (U64 (limb v5 0) /\ U64 (limb v5 1) /\ U64 (limb v5 2) /\ U64 (limb v5 3) /\ U64 17562291160714782033 /\ U64 13611842547513532036 /\ U64 18446744073709551615 /\ U64 18446744069414584320) /\ ∀ v24, v24 = val4 (limb v5 0) (limb v5 1) (limb v5 2) (limb v5 3) + (115792089210356248762697446949407573529996955224135760342422259061068512044369 : Int) -> ∀ v25, v25 = (val4 (limb v5 0) (limb v5 1) (limb v5 2) (limb v5 3) + (115792089210356248762697446949407573529996955224135760342422259061068512044369 : Int)) / (115792089237316195423570985008687907853269984665640564039457584007913129639936 : Int) -> ∀ v26, v26 = (v25 == (0 : Int)) -> (v26 = true -> (U64 (limb v24 0) /\ U64 (limb v24 1) /\ U64 (limb v24 2) /\ U64 (limb v24 3) /\ U64 18446744073709551615 /\ U64 4294967295 /\ U64 0 /\ U64 18446744069414584321) /\ ∀ v27, v27 = cmpF (val4 (limb v24 0) (limb v24 1) (limb v24 2) (limb v24 3)) (115792089210356248762697446949407573530086143415290314195533631308867097853951 : Int) -> ∀ v28, v28 = decide (v27 < (0 : Int)) -> (v28 = true -> True /\ true = true) /\ (v28 = false -> (U64 (limb v16 0) /\ U64 (limb v16 1) /\ U64 (limb v16 2) /\ U64 (limb v16 3) /\ U64 (limb v18 0) /\ U64 (limb v18 1) /\ U64 (limb v18 2) /\ U64 (limb v18 3) /\ U64 17562291160714782033 /\ U64 13611842547513532036 /\ U64 18446744073709551615 /\ U64 18446744069414584320) /\ ∀ v29, v29 = modF (val4 (limb v16 0) (limb v16 1) (limb v16 2) (limb v16 3) + val4 (limb v18 0) (limb v18 1) (limb v18 2) (limb v18 3)) (115792089210356248762697446949407573529996955224135760342422259061068512044369 : Int) -> (U64 (limb v5 0) /\ U64 (limb v5 1) /\ U64 (limb v5 2) /\ U64 (limb v5 3) /\ U64 d0 /\ U64 d1 /\ U64 d2 /\ U64 d3 /\ U64 17562291160714782033 /\ U64 13611842547513532036 /\ U64 18446744073709551615 /\ U64 18446744069414584320) /\ ∀ v30, v30 = modF (val4 (limb v5 0) (limb v5 1) (limb v5 2) (limb v5 3) * val4 d0 d1 d2 d3) (115792089210356248762697446949407573529996955224135760342422259061068512044369 : Int) -> (U64 2 /\ U64 0 /\ U64 0 /\ U64 0 /\ U64 (limb v30 0) /\ U64 (limb v30 1) /\ U64 (limb v30 2) /\ U64 (limb v30 3) /\ U64 17562291160714782033 /\ U64 13611842547513532036 /\ U64 18446744073709551615 /\ U64 18446744069414584320) /\ ∀ v31, v31 = modF ((2 : Int) * val4 (limb v30 0) (limb v30 1) (limb v30 2) (limb v30 3)) (115792089210356248762697446949407573529996955224135760342422259061068512044369 : Int) -> (U64 (limb v29 0) /\ U64 (limb v29 1) /\ U64 (limb v29 2) /\ U64 (limb v29 3) /\ U64 (limb v31 0) /\ U64 (limb v31 1) /\ U64 (limb v31 2) /\ U64 (limb v31 3) /\ U64 17562291160714782033 /\ U64 13611842547513532036 /\ U64 18446744073709551615 /\ U64 18446744069414584320) /\ ∀ v32, v32 = modF (val4 (limb v29 0) (limb v29 1) (limb v29 2) (limb v29 3) + val4 (limb v31 0) (limb v31 1) (limb v31 2) (limb v31 3)) (115792089210356248762697446949407573529996955224135760342422259061068512044369 : Int) -> ∀ v33, v33 = (limb v32 0 == (0 : Int) && (limb v32 1 == (0 : Int) && (limb v32 2 == (0 : Int) && (limb v32 3 == (0 : Int) && true)))) -> (v33 = false -> (U64 (limb v1 0) /\ U64 (limb v1 1) /\ U64 (limb v1 2) /\ U64 (limb v1 3) /\ U64 (limb v2 0) /\ U64 (limb v2 1) /\ U64 (limb v2 2) /\ U64 (limb v2 3) /\ U64 (limb v5 0) /\ U64 (limb v5 1) /\ U64 (limb v5 2) /\ U64 (limb v5 3) /\ U64 (limb v6 0) /\ U64 (limb v6 1) /\ U64 (limb v6 2) /\ U64 (limb v6 3) /\ u.size ≤ 140737488355328) /\ ∀ v34, v34 = chE (val4 (limb v1 0) (limb v1 1) (limb v1 2) (limb v1 3)) (val4 (limb v2 0) (limb v2 1) (limb v2 2) (limb v2 3)) v3 u (val4 (limb v5 0) (limb v5 1) (limb v5 2) (limb v5 3)) (val4 (limb v6 0) (limb v6 1) (limb v6 2) (limb v6 3)) -> ∀ v35, v35 = (v34 == (16 : Int)) -> (v35 = true -> True /\ true = true) /\ (v35 = false -> false = true)) /\ (v33 = true -> True /\ true = true))) /\ (v26 = false -> (U64 (limb v16 0) /\ U64 (limb v16 1) /\ U64 (limb v16 2) /\ U64 (limb v16 3) /\ U64 (limb v18 0) /\ U64 (limb v18 1) /\ U64 (limb v18 2) /\ U64 (limb v18 3) /\ U64 17562291160714782033 /\ U64 13611842547513532036 /\ U64 18446744073709551615 /\ U64 18446744069414584320) /\ ∀ v36, v36 = modF (val4 (limb v16 0) (limb v16 1) (limb v16 2) (limb v16 3) + val4 (limb v18 0) (limb v18 1) (limb v18 2) (limb v18 3)) (115792089210356248762697446949407573529996955224135760342422259061068512044369 : Int) -> (U64 (limb v5 0) /\ U64 (limb v5 1) /\ U64 (limb v5 2) /\ U64 (limb v5 3) /\ U64 d0 /\ U64 d1 /\ U64 d2 /\ U64 d3 /\ U64 17562291160714782033 /\ U64 13611842547513532036 /\ U64 18446744073709551615 /\ U64 18446744069414584320) /\ ∀ v37, v37 = modF (val4 (limb v5 0) (limb v5 1) (limb v5 2) (limb v5 3) * val4 d0 d1 d2 d3) (115792089210356248762697446949407573529996955224135760342422259061068512044369 : Int) -> (U64 2 /\ U64 0 /\ U64 0 /\ U64 0 /\ U64 (limb v37 0) /\ U64 (limb v37 1) /\ U64 (limb v37 2) /\ U64 (limb v37 3) /\ U64 17562291160714782033 /\ U64 13611842547513532036 /\ U64 18446744073709551615 /\ U64 18446744069414584320) /\ ∀ v38, v38 = modF ((2 : Int) * val4 (limb v37 0) (limb v37 1) (limb v37 2) (limb v37 3)) (115792089210356248762697446949407573529996955224135760342422259061068512044369 : Int) -> (U64 (limb v36 0) /\ U64 (limb v36 1) /\ U64 (limb v36 2) /\ U64 (limb v36 3) /\ U64 (limb v38 0) /\ U64 (limb v38 1) /\ U64 (limb v38 2) /\ U64 (limb v38 3) /\ U64 17562291160714782033 /\ U64 13611842547513532036 /\ U64 18446744073709551615 /\ U64 18446744069414584320) /\ ∀ v39, v39 = modF (val4 (limb v36 0) (limb v36 1) (limb v36 2) (limb v36 3) + val4 (limb v38 0) (limb v38 1) (limb v38 2) (limb v38 3)) (115792089210356248762697446949407573529996955224135760342422259061068512044369 : Int) -> ∀ v40, v40 = (limb v39 0 == (0 : Int) && (limb v39 1 == (0 : Int) && (limb v39 2 == (0 : Int) && (limb v39 3 == (0 : Int) && true)))) -> (v40 = false -> (U64 (limb v1 0) /\ U64 (limb v1 1) /\ U64 (limb v1 2) /\ U64 (limb v1 3) /\ U64 (limb v2 0) /\ U64 (limb v2 1) /\ U64 (limb v2 2) /\ U64 (limb v2 3) /\ U64 (limb v5 0) /\ U64 (limb v5 1) /\ U64 (limb v5 2) /\ U64 (limb v5 3) /\ U64 (limb v6 0) /\ U64 (limb v6 1) /\ U64 (limb v6 2) /\ U64 (limb v6 3) /\ u.size ≤ 140737488355328) /\ ∀ v41, v41 = chE (val4 (limb v1 0) (limb v1 1) (limb v1 2) (limb v1 3)) (val4 (limb v2 0) (limb v2 1) (limb v2 2) (limb v2 3)) v3 u (val4 (limb v5 0) (limb v5 1) (limb v5 2) (limb v5 3)) (val4 (limb v6 0) (limb v6 1) (limb v6 2) (limb v6 3)) -> ∀ v42, v42 = (v41 == (16 : Int)) -> (v42 = true -> True /\ true = true) /\ (v42 = false -> false = true)) /\ (v40 = true -> True /\ true = true)))) /\ (v20 = true -> True /\ true = true)))) /\ (v11 = true -> ∀ v43, v43 = (v7 != (0 : Int)) -> (v43 = true -> True /\ true = true) /\ (v43 = false -> false = true)))
theorem tieEcdsaHolds (w0 : World) (d0 : Int) (d1 : Int) (d2 : Int) (d3 : Int) (b0 : Int) (b1 : Int) (b2 : Int) (b3 : Int) (t : ByteArray) (u : ByteArray) : VCEcdsaHolds d0 d1 d2 d3 b0 b1 b2 b3 t u = ((recN (GC Try.prog ed5Spec w0) 60).call 16 [.agg [.int .u64 (.sym d0), .int .u64 (.sym d1), .int .u64 (.sym d2), .int .u64 (.sym d3)], .agg [.int .u64 (.sym b0), .int .u64 (.sym b1), .int .u64 (.sym b2), .int .u64 (.sym b3)], .str (.sym t), .str (.sym u)] [] (fun v _ => isTrue v)) := by kernel_rfl
set_option maxHeartbeats 1000000 in
theorem pureEcdsaHolds (d0 d1 d2 d3 b0 b1 b2 b3 : Int) (t u : ByteArray) (h : U64 d0 ∧ U64 d1 ∧ U64 d2 ∧ U64 d3 ∧ U64 b0 ∧ U64 b1 ∧ U64 b2 ∧ U64 b3 ∧ (t.size ≤ 140737488351232) ∧ (u.size ≤ 140737488351232)) : VCEcdsaHolds d0 d1 d2 d3 b0 b1 b2 b3 t u := by
  obtain ⟨hd0, hd1, hd2, hd3, hb0, hb1, hb2, hb3, ht, hu⟩ := h
  have ed0 : U64 d0 = True := eq_true hd0
  have ed1 : U64 d1 = True := eq_true hd1
  have ed2 : U64 d2 = True := eq_true hd2
  have ed3 : U64 d3 = True := eq_true hd3
  have eb0 : U64 b0 = True := eq_true hb0
  have eb1 : U64 b1 = True := eq_true hb1
  have eb2 : U64 b2 = True := eq_true hb2
  have eb3 : U64 b3 = True := eq_true hb3
  have et : (t.size ≤ 140737488355328) = True := eq_true (by omega)
  have eu : (u.size ≤ 140737488355328) = True := eq_true (by omega)
  obtain ⟨q0, q1, q2, q3⟩ := n2w
  have w0 : U64 0 = True := eq_true U64_0
  have w2 : U64 2 = True := eq_true (by decide)
  have p0 : U64 17562291160714782033 = True := eq_true q0
  have p1 : U64 13611842547513532036 = True := eq_true q1
  have p2 : U64 18446744073709551615 = True := eq_true q2
  have p3 : U64 18446744069414584320 = True := eq_true q3
  have p4 : U64 4294967295 = True := eq_true (by decide)
  have p5 : U64 18446744069414584321 = True := eq_true (by decide)
  have D0 := (val4_lt hd0 hd1 hd2 hd3).1
  have K0 := (val4_lt hb0 hb1 hb2 hb3).1
  unfold VCEcdsaHolds
  simp only [forall_eq, ulP, ed0, ed1, ed2, ed3, eb0, eb1, eb2, eb3, et, eu, w0, w2, p0, p1, p2, p3, p4, p5, (lpub _).1, (lpub _).2, (lsg _ _ _).1, (lsg _ _ _).2, lbe, rF0, modN2, lmN, pq, pr, cmp_lt, true_and]
  generalize val4 d0 d1 d2 d3 = D at *
  generalize val4 b0 b1 b2 b3 = K at *
  cases hD : secF D with
  | false =>
    have e1 : pubE D = 13 := if_neg (by rw [hD]; decide)
    have e2 : sgE D K t = 13 := by unfold sgE; rw [hD]; rfl
    rw [e1, e2]
    exact ⟨fun z => absurd z (by decide), fun _ => ⟨fun z => absurd z (by decide), fun _ => ⟨fun _ => trivial, fun z => absurd z (by decide)⟩⟩⟩
  | true =>
    have e1 : pubE D = 0 := if_pos hD
    have x1 : pubX D = cX (QF D) := if_pos hD
    have x2 : pubY D = cY (QF D) := if_pos hD
    have x3 : pubB D = cB (QF D) := if_pos hD
    rw [e1, x1, x2, x3]
    refine ⟨fun z => absurd z (by decide), fun _ => ⟨fun _ => ⟨fun z => ⟨fun _ => trivial, fun z2 => absurd (z.symm.trans z2) (by decide)⟩, fun z => ?_⟩, fun z => absurd z (by decide)⟩⟩
    have z : sgE D K t = 0 := by simpa using z
    rw [che_sign D0 K0 z]
    refine ⟨fun z => absurd z (by decide), fun _ => ⟨fun zu => ?_, fun _ => trivial⟩⟩
    have hu32 : (u.size : Int) = 32 := by
      have zu : erF (u.size : Int) 32 = 0 := by simpa using zu
      unfold erF at zu
      split at zu
      · exact absurd zu (by decide)
      · split at zu
        · exact absurd zu (by decide)
        · omega
    refine ⟨fun _ => trivial, fun hne => ?_⟩
    have hne := of_decide_eq_false hne
    have rb := (sg_bd D K t).1
    have rb2 : sgR D K t < 115792089210356248762697446949407573529996955224135760342422259061068512044369 := rb.2
    have fin : ¬ sgR D K t + N2 < P2 → (decide (((beF t + beF u) % N2 + (2 * ((sgR D K t * D) % N2)) % N2) % N2 = 0) = false → ((chE (cX (QF D)) (cY (QF D)) (cB (QF D)) u (sgR D K t) (sgS D K t) == 16) = true → True) ∧ ((chE (cX (QF D)) (cY (QF D)) (cB (QF D)) u (sgR D K t) (sgS D K t) == 16) = false → false = true)) := fun hf hs0 => by
      rw [che_other D0 K0 z hu32 hne hf (of_decide_eq_false hs0)]
      exact ⟨fun _ => trivial, fun w => absurd w (by decide)⟩
    refine ⟨fun hov => ?_, fun hov => ?_⟩
    · have hov : (sgR D K t + 115792089210356248762697446949407573529996955224135760342422259061068512044369) / 115792089237316195423570985008687907853269984665640564039457584007913129639936 = 0 := by simpa using hov
      have hlt : sgR D K t + 115792089210356248762697446949407573529996955224135760342422259061068512044369 < 115792089237316195423570985008687907853269984665640564039457584007913129639936 := by omega
      rw [lBd (x := sgR D K t + 115792089210356248762697446949407573529996955224135760342422259061068512044369) ⟨by omega, hlt⟩]
      refine ⟨fun _ => trivial, fun hf => ?_⟩
      have hf := of_decide_eq_false hf
      exact ⟨fun hs0 => ⟨fun _ => trivial, (fin hf hs0).2⟩, fun _ => trivial⟩
    · have hov : ¬ (sgR D K t + 115792089210356248762697446949407573529996955224135760342422259061068512044369) / 115792089237316195423570985008687907853269984665640564039457584007913129639936 = 0 := by simpa using hov
      have hf : ¬ sgR D K t + N2 < P2 := fun w => by
        have w : sgR D K t + 115792089210356248762697446949407573529996955224135760342422259061068512044369 < 115792089210356248762697446949407573530086143415290314195533631308867097853951 := w
        omega
      exact ⟨fun hs0 => ⟨fun _ => trivial, (fin hf hs0).2⟩, fun _ => trivial⟩
theorem walkEcdsaHolds (d0 : Int) (d1 : Int) (d2 : Int) (d3 : Int) (b0 : Int) (b1 : Int) (b2 : Int) (b3 : Int) (t : ByteArray) (u : ByteArray) (w0 : World) (hd0 : (Lit.int .u64 d0).wf = true) (hd1 : (Lit.int .u64 d1).wf = true) (hd2 : (Lit.int .u64 d2).wf = true) (hd3 : (Lit.int .u64 d3).wf = true) (hb0 : (Lit.int .u64 b0).wf = true) (hb1 : (Lit.int .u64 b1).wf = true) (hb2 : (Lit.int .u64 b2).wf = true) (hb3 : (Lit.int .u64 b3).wf = true) (ht : t.size ≤ 140737488351232) (hu : u.size ≤ 140737488351232) : Calls Try.prog 16 #[.agg #[.int .u64 d0, .int .u64 d1, .int .u64 d2, .int .u64 d3], .agg #[.int .u64 b0, .int .u64 b1, .int .u64 b2, .int .u64 b3], .string t, .string u] w0 fun e w' => e = .returned (.bool true) ∧ Below w0.heap.size w0 w' :=
  law_tie (G := GC Try.prog ed5Spec w0) (gok w0 namesOk_ mixed_ ed5_ok) (n := 60) (f := 16) (args := [.agg [.int .u64 (.sym d0), .int .u64 (.sym d1), .int .u64 (.sym d2), .int .u64 (.sym d3)], .agg [.int .u64 (.sym b0), .int .u64 (.sym b1), .int .u64 (.sym b2), .int .u64 (.sym b3)], .str (.sym t), .str (.sym u)]) (by kernel_rfl) (VCEcdsaHolds d0 d1 d2 d3 b0 b1 b2 b3 t u) (tieEcdsaHolds w0 d0 d1 d2 d3 b0 b1 b2 b3 t u) (pureEcdsaHolds d0 d1 d2 d3 b0 b1 b2 b3 t u ⟨wf_u64 hd0, wf_u64 hd1, wf_u64 hd2, wf_u64 hd3, wf_u64 hb0, wf_u64 hb1, wf_u64 hb2, wf_u64 hb3, ht, hu⟩)

def VCEcdsaOther (ax0 : Int) (ax1 : Int) (ax2 : Int) (ax3 : Int) (ay0 : Int) (ay1 : Int) (ay2 : Int) (ay3 : Int) (ai : Bool) (t : ByteArray) (gr0 : Int) (gr1 : Int) (gr2 : Int) (gr3 : Int) (gs0 : Int) (gs1 : Int) (gs2 : Int) (gs3 : Int) : Prop :=
  (U64 gs0 /\ U64 gs1 /\ U64 gs2 /\ U64 gs3) /\ ∀ v1, v1 = secF (val4 gs0 gs1 gs2 gs3) -> ∀ (v2 : Bool), v2 = !v1 -> (v2 = false -> (U64 gr0 /\ U64 gr1 /\ U64 gr2 /\ U64 gr3) /\ ∀ v3, v3 = secF (val4 gr0 gr1 gr2 gr3) -> ∀ (v4 : Bool), v4 = !v3 -> (v4 = true -> (U64 gr0 /\ U64 gr1 /\ U64 gr2 /\ U64 gr3 /\ U64 gs0 /\ U64 gs1 /\ U64 gs2 /\ U64 gs3) /\ ∀ v5, v5 = gr0 -> ∀ v6, v6 = gr1 -> ∀ v7, v7 = gr2 -> ∀ v8, v8 = gr3 -> ∀ v9, v9 = loS (val4 gr0 gr1 gr2 gr3) (val4 gs0 gs1 gs2 gs3) -> (U64 gr0 /\ U64 gr1 /\ U64 gr2 /\ U64 gr3 /\ U64 gs0 /\ U64 gs1 /\ U64 gs2 /\ U64 gs3) /\ ∀ v10, v10 = gr0 -> ∀ v11, v11 = gr1 -> ∀ v12, v12 = gr2 -> ∀ v13, v13 = gr3 -> ∀ v14, v14 = loS (val4 gr0 gr1 gr2 gr3) (val4 gs0 gs1 gs2 gs3) -> ∀ v15, v15 = (v5 == v10 && (v6 == v11 && (v7 == v12 && (v8 == v13 && true))) && (limb v9 0 == limb v14 0 && (limb v9 1 == limb v14 1 && (limb v9 2 == limb v14 2 && (limb v9 3 == limb v14 3 && true))) && true)) -> (v15 = true -> True /\ true = true) /\ (v15 = false -> false = true)) /\ (v4 = false -> (U64 0 /\ U64 0 /\ U64 0 /\ U64 0 /\ U64 gs0 /\ U64 gs1 /\ U64 gs2 /\ U64 gs3 /\ U64 17562291160714782033 /\ U64 13611842547513532036 /\ U64 18446744073709551615 /\ U64 18446744069414584320) /\ ∀ v16, v16 = modF ((0 : Int) - val4 gs0 gs1 gs2 gs3) (115792089210356248762697446949407573529996955224135760342422259061068512044369 : Int) -> (U64 ax0 /\ U64 ax1 /\ U64 ax2 /\ U64 ax3 /\ U64 ay0 /\ U64 ay1 /\ U64 ay2 /\ U64 ay3 /\ U64 gr0 /\ U64 gr1 /\ U64 gr2 /\ U64 gr3 /\ U64 gs0 /\ U64 gs1 /\ U64 gs2 /\ U64 gs3 /\ t.size ≤ 140737488355328) /\ ∀ v17, v17 = chE (val4 ax0 ax1 ax2 ax3) (val4 ay0 ay1 ay2 ay3) ai t (val4 gr0 gr1 gr2 gr3) (val4 gs0 gs1 gs2 gs3) -> (U64 ax0 /\ U64 ax1 /\ U64 ax2 /\ U64 ax3 /\ U64 ay0 /\ U64 ay1 /\ U64 ay2 /\ U64 ay3 /\ U64 gr0 /\ U64 gr1 /\ U64 gr2 /\ U64 gr3 /\ U64 (limb v16 0) /\ U64 (limb v16 1) /\ U64 (limb v16 2) /\ U64 (limb v16 3) /\ t.size ≤ 140737488355328) /\ ∀ v18, v18 = chE (val4 ax0 ax1 ax2 ax3) (val4 ay0 ay1 ay2 ay3) ai t (val4 gr0 gr1 gr2 gr3) (val4 (limb v16 0) (limb v16 1) (limb v16 2) (limb v16 3)) -> ∀ v19, v19 = (v17 == v18) -> (v19 = true -> (U64 gr0 /\ U64 gr1 /\ U64 gr2 /\ U64 gr3 /\ U64 gs0 /\ U64 gs1 /\ U64 gs2 /\ U64 gs3) /\ ∀ v20, v20 = gr0 -> ∀ v21, v21 = gr1 -> ∀ v22, v22 = gr2 -> ∀ v23, v23 = gr3 -> ∀ v24, v24 = loS (val4 gr0 gr1 gr2 gr3) (val4 gs0 gs1 gs2 gs3) -> (U64 gr0 /\ U64 gr1 /\ U64 gr2 /\ U64 gr3 /\ U64 (limb v16 0) /\ U64 (limb v16 1) /\ U64 (limb v16 2) /\ U64 (limb v16 3)) /\ ∀ v25, v25 = gr0 -> ∀ v26, v26 = gr1 -> ∀ v27, v27 = gr2 -> ∀ v28, v28 = gr3 -> ∀ v29, v29 = loS (val4 gr0 gr1 gr2 gr3) (val4 (limb v16 0) (limb v16 1) (limb v16 2) (limb v16 3)) -> ∀ v30, v30 = (v20 == v25 && (v21 == v26 && (v22 == v27 && (v23 == v28 && true))) && (limb v24 0 == limb v29 0 && (limb v24 1 == limb v29 1 && (limb v24 2 == limb v29 2 && (limb v24 3 == limb v29 3 && true))) && true)) -> (v30 = true -> True /\ true = true) /\ (v30 = false -> false = true)) /\ (v19 = false -> false = true))) /\ (v2 = true -> (U64 gr0 /\ U64 gr1 /\ U64 gr2 /\ U64 gr3 /\ U64 gs0 /\ U64 gs1 /\ U64 gs2 /\ U64 gs3) /\ ∀ v31, v31 = gr0 -> ∀ v32, v32 = gr1 -> ∀ v33, v33 = gr2 -> ∀ v34, v34 = gr3 -> ∀ v35, v35 = loS (val4 gr0 gr1 gr2 gr3) (val4 gs0 gs1 gs2 gs3) -> (U64 gr0 /\ U64 gr1 /\ U64 gr2 /\ U64 gr3 /\ U64 gs0 /\ U64 gs1 /\ U64 gs2 /\ U64 gs3) /\ ∀ v36, v36 = gr0 -> ∀ v37, v37 = gr1 -> ∀ v38, v38 = gr2 -> ∀ v39, v39 = gr3 -> ∀ v40, v40 = loS (val4 gr0 gr1 gr2 gr3) (val4 gs0 gs1 gs2 gs3) -> ∀ v41, v41 = (v31 == v36 && (v32 == v37 && (v33 == v38 && (v34 == v39 && true))) && (limb v35 0 == limb v40 0 && (limb v35 1 == limb v40 1 && (limb v35 2 == limb v40 2 && (limb v35 3 == limb v40 3 && true))) && true)) -> (v41 = true -> True /\ true = true) /\ (v41 = false -> false = true))
theorem tieEcdsaOther (w0 : World) (ax0 : Int) (ax1 : Int) (ax2 : Int) (ax3 : Int) (ay0 : Int) (ay1 : Int) (ay2 : Int) (ay3 : Int) (ai : Bool) (t : ByteArray) (gr0 : Int) (gr1 : Int) (gr2 : Int) (gr3 : Int) (gs0 : Int) (gs1 : Int) (gs2 : Int) (gs3 : Int) : VCEcdsaOther ax0 ax1 ax2 ax3 ay0 ay1 ay2 ay3 ai t gr0 gr1 gr2 gr3 gs0 gs1 gs2 gs3 = ((recN (GC Try.prog ed5Spec w0) 60).call 17 [.agg [.int .u64 (.sym ax0), .int .u64 (.sym ax1), .int .u64 (.sym ax2), .int .u64 (.sym ax3), .int .u64 (.sym ay0), .int .u64 (.sym ay1), .int .u64 (.sym ay2), .int .u64 (.sym ay3), .bool (.sym ai)], .str (.sym t), .agg [.int .u64 (.sym gr0), .int .u64 (.sym gr1), .int .u64 (.sym gr2), .int .u64 (.sym gr3), .int .u64 (.sym gs0), .int .u64 (.sym gs1), .int .u64 (.sym gs2), .int .u64 (.sym gs3)]] [] (fun v _ => isTrue v)) := by kernel_rfl
theorem pureEcdsaOther (ax0 ax1 ax2 ax3 ay0 ay1 ay2 ay3 : Int) (ai : Bool) (t : ByteArray) (gr0 gr1 gr2 gr3 gs0 gs1 gs2 gs3 : Int) (h : U64 ax0 ∧ U64 ax1 ∧ U64 ax2 ∧ U64 ax3 ∧ U64 ay0 ∧ U64 ay1 ∧ U64 ay2 ∧ U64 ay3 ∧ (t.size ≤ 140737488351232) ∧ U64 gr0 ∧ U64 gr1 ∧ U64 gr2 ∧ U64 gr3 ∧ U64 gs0 ∧ U64 gs1 ∧ U64 gs2 ∧ U64 gs3) : VCEcdsaOther ax0 ax1 ax2 ax3 ay0 ay1 ay2 ay3 ai t gr0 gr1 gr2 gr3 gs0 gs1 gs2 gs3 := by
  obtain ⟨hax0, hax1, hax2, hax3, hay0, hay1, hay2, hay3, ht, hgr0, hgr1, hgr2, hgr3, hgs0, hgs1, hgs2, hgs3⟩ := h
  have eax0 : U64 ax0 = True := eq_true hax0
  have eax1 : U64 ax1 = True := eq_true hax1
  have eax2 : U64 ax2 = True := eq_true hax2
  have eax3 : U64 ax3 = True := eq_true hax3
  have eay0 : U64 ay0 = True := eq_true hay0
  have eay1 : U64 ay1 = True := eq_true hay1
  have eay2 : U64 ay2 = True := eq_true hay2
  have eay3 : U64 ay3 = True := eq_true hay3
  have egr0 : U64 gr0 = True := eq_true hgr0
  have egr1 : U64 gr1 = True := eq_true hgr1
  have egr2 : U64 gr2 = True := eq_true hgr2
  have egr3 : U64 gr3 = True := eq_true hgr3
  have egs0 : U64 gs0 = True := eq_true hgs0
  have egs1 : U64 gs1 = True := eq_true hgs1
  have egs2 : U64 gs2 = True := eq_true hgs2
  have egs3 : U64 gs3 = True := eq_true hgs3
  have et : (t.size ≤ 140737488355328) = True := eq_true (by omega)
  obtain ⟨q0, q1, q2, q3⟩ := n2w
  have w0 : U64 0 = True := eq_true U64_0
  have p0 : U64 17562291160714782033 = True := eq_true q0
  have p1 : U64 13611842547513532036 = True := eq_true q1
  have p2 : U64 18446744073709551615 = True := eq_true q2
  have p3 : U64 18446744069414584320 = True := eq_true q3
  have R0 := (val4_lt hgr0 hgr1 hgr2 hgr3).1
  have S0 := (val4_lt hgs0 hgs1 hgs2 hgs3).1
  unfold VCEcdsaOther
  simp only [forall_eq, ulP, eax0, eax1, eax2, eax3, eay0, eay1, eay2, eay3, egr0, egr1, egr2, egr3, egs0, egs1, egs2, egs3, et, w0, p0, p1, p2, p3, modN2, lmN, beq_self_eq_true, Bool.and_true, true_and]
  generalize val4 ax0 ax1 ax2 ax3 = X at *
  generalize val4 ay0 ay1 ay2 ay3 = Y at *
  generalize val4 gr0 gr1 gr2 gr3 = R at *
  generalize val4 gs0 gs1 gs2 gs3 = S at *
  cases hS : secF S with
  | false => simp
  | true =>
    cases hR : secF R with
    | false => simp
    | true =>
      rw [che_neg R0 S0 hS, lo_neg S0 hR hS]
      simp
theorem walkEcdsaOther (ax0 : Int) (ax1 : Int) (ax2 : Int) (ax3 : Int) (ay0 : Int) (ay1 : Int) (ay2 : Int) (ay3 : Int) (ai : Bool) (t : ByteArray) (gr0 : Int) (gr1 : Int) (gr2 : Int) (gr3 : Int) (gs0 : Int) (gs1 : Int) (gs2 : Int) (gs3 : Int) (w0 : World) (hax0 : (Lit.int .u64 ax0).wf = true) (hax1 : (Lit.int .u64 ax1).wf = true) (hax2 : (Lit.int .u64 ax2).wf = true) (hax3 : (Lit.int .u64 ax3).wf = true) (hay0 : (Lit.int .u64 ay0).wf = true) (hay1 : (Lit.int .u64 ay1).wf = true) (hay2 : (Lit.int .u64 ay2).wf = true) (hay3 : (Lit.int .u64 ay3).wf = true) (ht : t.size ≤ 140737488351232) (hgr0 : (Lit.int .u64 gr0).wf = true) (hgr1 : (Lit.int .u64 gr1).wf = true) (hgr2 : (Lit.int .u64 gr2).wf = true) (hgr3 : (Lit.int .u64 gr3).wf = true) (hgs0 : (Lit.int .u64 gs0).wf = true) (hgs1 : (Lit.int .u64 gs1).wf = true) (hgs2 : (Lit.int .u64 gs2).wf = true) (hgs3 : (Lit.int .u64 gs3).wf = true) : Calls Try.prog 17 #[.agg #[.int .u64 ax0, .int .u64 ax1, .int .u64 ax2, .int .u64 ax3, .int .u64 ay0, .int .u64 ay1, .int .u64 ay2, .int .u64 ay3, .bool ai], .string t, .agg #[.int .u64 gr0, .int .u64 gr1, .int .u64 gr2, .int .u64 gr3, .int .u64 gs0, .int .u64 gs1, .int .u64 gs2, .int .u64 gs3]] w0 fun e w' => e = .returned (.bool true) ∧ Below w0.heap.size w0 w' :=
  law_tie (G := GC Try.prog ed5Spec w0) (gok w0 namesOk_ mixed_ ed5_ok) (n := 60) (f := 17) (args := [.agg [.int .u64 (.sym ax0), .int .u64 (.sym ax1), .int .u64 (.sym ax2), .int .u64 (.sym ax3), .int .u64 (.sym ay0), .int .u64 (.sym ay1), .int .u64 (.sym ay2), .int .u64 (.sym ay3), .bool (.sym ai)], .str (.sym t), .agg [.int .u64 (.sym gr0), .int .u64 (.sym gr1), .int .u64 (.sym gr2), .int .u64 (.sym gr3), .int .u64 (.sym gs0), .int .u64 (.sym gs1), .int .u64 (.sym gs2), .int .u64 (.sym gs3)]]) (by kernel_rfl) (VCEcdsaOther ax0 ax1 ax2 ax3 ay0 ay1 ay2 ay3 ai t gr0 gr1 gr2 gr3 gs0 gs1 gs2 gs3) (tieEcdsaOther w0 ax0 ax1 ax2 ax3 ay0 ay1 ay2 ay3 ai t gr0 gr1 gr2 gr3 gs0 gs1 gs2 gs3) (pureEcdsaOther ax0 ax1 ax2 ax3 ay0 ay1 ay2 ay3 ai t gr0 gr1 gr2 gr3 gs0 gs1 gs2 gs3 ⟨wf_u64 hax0, wf_u64 hax1, wf_u64 hax2, wf_u64 hax3, wf_u64 hay0, wf_u64 hay1, wf_u64 hay2, wf_u64 hay3, ht, wf_u64 hgr0, wf_u64 hgr1, wf_u64 hgr2, wf_u64 hgr3, wf_u64 hgs0, wf_u64 hgs1, wf_u64 hgs2, wf_u64 hgs3⟩)

end Go.Proofs.Ytaaobpalpcdlbaa.Bits
