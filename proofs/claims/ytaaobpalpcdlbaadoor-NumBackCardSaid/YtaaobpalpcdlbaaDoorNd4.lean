import Derived.Test.YtaaobpalpcdlbaaDoorSxR
import Derived.Test.YtaaobpalpcdlbaaDoorProg
import Derived.Test.YtaaobpalpcdlbaaDoorNd1
import Derived.Test.YtaaobpalpcdlbaaDoorNm1
import Derived.Test.YtaaobpalpcdlbaaDoorTx4
import Derived.Test.YtaaobpalpcdlbaaDoorPa3
import Derived.Test.YtaaobpalpcdlbaaDoorByt
import Derived.KernelRfl
namespace Go.Proofs.YtaaobpalpcdlbaaDoor.Bits
open Go Go.Sx Go.RowKit
set_option linter.unusedVariables false
set_option linter.unusedSimpArgs false
set_option maxRecDepth 100000
def nd4Spec : List (FuncId × CSpec) := [(8, divSpec), (13, addSpec), (15, subSpec), (12, mulSpec), (21, lenSpec), (23, parseSpec), (24, rParseSpec), (25, fromBigSpec), (26, rFromBigSpec), (27, fromLittleSpec), (28, rFromLittleSpec), (31, bigSpec), (32, rBigSpec), (33, littleSpec), (34, rLittleSpec), (30, rTextSpec), (77, noEscSpec)]
theorem nd4_ok : SpecsOk Tryd.prog nd4Spec := ⟨div_ok, add_ok, sub_ok, mul_ok, len_ok, parse_ok, rParse_ok, fromBig_ok, rFromBig_ok, fromLittle_ok, rFromLittle_ok, big_ok, rBig_ok, little_ok, rLittle_ok, rText_ok, noEsc_ok, trivial⟩
def nd4wSpec : List (FuncId × WSpec) := [(29, textSpec)]
theorem nd4w_ok : SpecsOkW Tryd.prog nd4wSpec := ⟨text_ok, trivial⟩
--@PLAIN
theorem ba_rfl (s : ByteArray) : (s == s) = true := by rw [ba_eq]; exact decide_eq_true rfl
--@WHYP NumReads hT : tabW w0
def VCNumReads (w0 : World) (x0 : Int) (x1 : Int) (x2 : Int) (x3 : Int) (s : ByteArray) : Prop :=
  True /\ ∀ v1, v1 = paF s -> ∀ v2, v2 = paE s -> s.size ≤ 140737488355328 /\ ∀ v3, v3 = paF s -> ∀ v4, v4 = paE s -> s.size ≤ 140737488355328 /\ ∀ v5, v5 = beF s -> ∀ v6, v6 = erF ↑s.size (32 : Int) -> s.size ≤ 140737488355328 /\ ∀ v7, v7 = beF s -> ∀ v8, v8 = erF ↑s.size (32 : Int) -> True /\ ∀ v9, v9 = leF s -> ∀ v10, v10 = erF ↑s.size (32 : Int) -> True /\ ∀ v11, v11 = leF s -> ∀ v12, v12 = erF ↑s.size (32 : Int) -> ∀ v13, v13 = (limb v1 0 == limb v3 0 && (limb v1 1 == limb v3 1 && (limb v1 2 == limb v3 2 && (limb v1 3 == limb v3 3 && true)))) -> (v13 = true -> ∀ v14, v14 = (v2 == v4) -> (v14 = true -> ∀ v15, v15 = (limb v5 0 == limb v7 0 && (limb v5 1 == limb v7 1 && (limb v5 2 == limb v7 2 && (limb v5 3 == limb v7 3 && true)))) -> (v15 = true -> ∀ v16, v16 = (v6 == v8) -> (v16 = true -> ∀ v17, v17 = (limb v9 0 == limb v11 0 && (limb v9 1 == limb v11 1 && (limb v9 2 == limb v11 2 && (limb v9 3 == limb v11 3 && true)))) -> (v17 = true -> ∀ v18, v18 = (v10 == v12) -> (v18 = true -> (U64 x0 /\ U64 x1 /\ U64 x2 /\ U64 x3 /\ tabW w0) /\ ∀ (v19 : ByteArray), v19 = textF (val4 x0 x1 x2 x3) -> (U64 x0 /\ U64 x1 /\ U64 x2 /\ U64 x3) /\ ∀ (v20 : ByteArray), v20 = textF (val4 x0 x1 x2 x3) -> ∀ v21, v21 = (v19 == v20) -> (v21 = true -> (U64 x0 /\ U64 x1 /\ U64 x2 /\ U64 x3) /\ ∀ (v22 : ByteArray), v22 = bigF (val4 x0 x1 x2 x3) -> (U64 x0 /\ U64 x1 /\ U64 x2 /\ U64 x3) /\ ∀ (v23 : ByteArray), v23 = bigF (val4 x0 x1 x2 x3) -> ∀ v24, v24 = (v22 == v23) -> (v24 = true -> (U64 x0 /\ U64 x1 /\ U64 x2 /\ U64 x3) /\ ∀ (v25 : ByteArray), v25 = littleF (val4 x0 x1 x2 x3) -> (U64 x0 /\ U64 x1 /\ U64 x2 /\ U64 x3) /\ ∀ (v26 : ByteArray), v26 = littleF (val4 x0 x1 x2 x3) -> ∀ v27, v27 = (v25 == v26) -> (v27 = true -> (U64 18446744073709551615 /\ U64 18446744073709551615 /\ U64 18446744073709551615 /\ U64 18446744073709551615 /\ U64 1 /\ U64 0 /\ U64 0 /\ U64 0) /\ ∀ (v28 : Int), v28 = (115792089237316195423570985008687907853269984665640564039457584007913129639936 : Int) -> ∀ (v29 : Int), v29 = (1 : Int) -> (U64 0 /\ U64 0 /\ U64 0 /\ U64 9223372036854775808 /\ U64 2 /\ U64 0 /\ U64 0 /\ U64 0) /\ ∀ (v30 : Int), v30 = (115792089237316195423570985008687907853269984665640564039457584007913129639936 : Int) -> ∀ (v31 : Int), v31 = (1 : Int) -> (U64 7 /\ U64 0 /\ U64 0 /\ U64 0 /\ U64 0 /\ U64 0 /\ U64 0 /\ U64 0 /\ U64 2 /\ U64 0 /\ U64 0 /\ U64 0) /\ ∀ (v32 : Int), v32 = (3 : Int) -> ∀ (v33 : Int), v33 = (0 : Int) -> ∀ (v34 : Int), v34 = (1 : Int) -> ∀ (v35 : Int), v35 = (0 : Int) -> ∀ v36, v36 = (limb v28 0 == (0 : Int) && (limb v28 1 == (0 : Int) && (limb v28 2 == (0 : Int) && (limb v28 3 == (0 : Int) && true)))) -> (v36 = true -> ∀ v37, v37 = (v29 == (1 : Int)) -> (v37 = true -> ∀ v38, v38 = (limb v30 0 == (0 : Int) && (limb v30 1 == (0 : Int) && (limb v30 2 == (0 : Int) && (limb v30 3 == (0 : Int) && true)))) -> (v38 = true -> ∀ v39, v39 = (limb v31 0 == (1 : Int) && (limb v31 1 == (0 : Int) && (limb v31 2 == (0 : Int) && (limb v31 3 == (0 : Int) && true)))) -> (v39 = true -> ∀ v40, v40 = (limb v32 0 == (3 : Int) && (limb v32 1 == (0 : Int) && (limb v32 2 == (0 : Int) && (limb v32 3 == (0 : Int) && true)))) -> (v40 = true -> ∀ v41, v41 = (limb v33 0 == (0 : Int) && (limb v33 1 == (0 : Int) && (limb v33 2 == (0 : Int) && (limb v33 3 == (0 : Int) && true)))) -> (v41 = true -> ∀ v42, v42 = (limb v34 0 == (1 : Int) && (limb v34 1 == (0 : Int) && (limb v34 2 == (0 : Int) && (limb v34 3 == (0 : Int) && true)))) -> (v42 = true -> ∀ v43, v43 = (v35 == (0 : Int)) -> (v43 = true -> (U64 18446744073709551615 /\ U64 18446744073709551615 /\ U64 18446744073709551615 /\ U64 18446744073709551615) /\ ∀ (v44 : Int), v44 = (256 : Int) -> ∀ v45, v45 = (v44 == (256 : Int)) -> (v45 = true -> (U64 10 /\ U64 0 /\ U64 0 /\ U64 0 /\ tabW w0) /\ ∀ (v46 : ByteArray), v46 = bytesL [48, 48, 48, 48, 48, 48, 48, 48, 48, 48, 48, 48, 48, 48, 48, 48, 48, 48, 48, 48, 48, 48, 48, 48, 48, 48, 48, 48, 48, 48, 48, 48, 48, 48, 48, 48, 48, 48, 48, 48, 48, 48, 48, 48, 48, 48, 48, 48, 48, 48, 48, 48, 48, 48, 48, 48, 48, 48, 48, 48, 48, 48, 48, 97] -> ((0 : Int) ≤ (63 : Int) /\ (63 : Int) ≤ ↑v46.size /\ (↑v46.size : Int) ≤ ↑v46.size) /\ ∀ (v47 : ByteArray), v47 = v46.extract 63 (↑v46.size : Int).toNat -> ∀ v48, v48 = (v47 == bytesL [97]) -> v48 = true) /\ (v45 = false -> false = true)) /\ (v43 = false -> false = true)) /\ (v42 = false -> false = true)) /\ (v41 = false -> false = true)) /\ (v40 = false -> false = true)) /\ (v39 = false -> false = true)) /\ (v38 = false -> false = true)) /\ (v37 = false -> false = true)) /\ (v36 = false -> false = true)) /\ (v27 = false -> false = true)) /\ (v24 = false -> false = true)) /\ (v21 = false -> false = true)) /\ (v18 = false -> false = true)) /\ (v17 = false -> false = true)) /\ (v16 = false -> false = true)) /\ (v15 = false -> false = true)) /\ (v14 = false -> false = true)) /\ (v13 = false -> false = true)
theorem tieNumReads (w0 : World) (x0 : Int) (x1 : Int) (x2 : Int) (x3 : Int) (s : ByteArray) : VCNumReads w0 x0 x1 x2 x3 s = ((recN (GW Tryd.prog nd4Spec nd4wSpec [] [] [] [] w0) 90).call 6 [.agg [.int .u64 (.sym x0), .int .u64 (.sym x1), .int .u64 (.sym x2), .int .u64 (.sym x3)], .str (.sym s)] [] (fun v _ => isTrue v)) := by kernel_rfl
theorem pureNumReads (w0 : World) (x0 x1 x2 x3 : Int) (s : ByteArray) (h : U64 x0 ∧ U64 x1 ∧ U64 x2 ∧ U64 x3 ∧ s.size ≤ 140737488351232 ∧ tabW w0) : VCNumReads w0 x0 x1 x2 x3 s := by
  obtain ⟨hx0, hx1, hx2, hx3, hs, ht⟩ := h
  have ex0 : U64 x0 = True := eq_true hx0
  have ex1 : U64 x1 = True := eq_true hx1
  have ex2 : U64 x2 = True := eq_true hx2
  have ex3 : U64 x3 = True := eq_true hx3
  have es : (s.size ≤ 140737488355328) = True := eq_true (by omega)
  have et : tabW w0 = True := eq_true ht
  have u1 : U64 18446744073709551615 = True := eq_true (by decide)
  have u2 : U64 9223372036854775808 = True := eq_true (by decide)
  have u3 : U64 0 = True := eq_true (by decide)
  have u4 : U64 1 = True := eq_true (by decide)
  have u5 : U64 2 = True := eq_true (by decide)
  have u6 : U64 7 = True := eq_true (by decide)
  have u7 : U64 10 = True := eq_true (by decide)
  unfold VCNumReads
  simp only [forall_eq, es, et, ba_rfl, ex0, ex1, ex2, ex3, u1, u2, u3, u4, u5, u6, u7, true_and, beq_self_eq_true, Bool.and_self, Bool.and_true, lim1.1, lim1.2.1, lim1.2.2.1, lim1.2.2.2, lim2.1, lim2.2.1, lim2.2.2.1, lim2.2.2.2, lim3.1, lim3.2.1, lim3.2.2.1, lim3.2.2.2, lim0.1, lim0.2.1, lim0.2.2.1, lim0.2.2.2, reduceCtorEq, false_implies, and_true, true_implies]
  exact ⟨by decide +kernel, by decide +kernel⟩
theorem walkNumReads (x0 : Int) (x1 : Int) (x2 : Int) (x3 : Int) (s : ByteArray) (w0 : World) (hx0 : (Lit.int .u64 x0).wf = true) (hx1 : (Lit.int .u64 x1).wf = true) (hx2 : (Lit.int .u64 x2).wf = true) (hx3 : (Lit.int .u64 x3).wf = true) (hs : s.size ≤ 140737488351232) (hT : tabW w0) : Calls Tryd.prog 6 #[.agg #[.int .u64 x0, .int .u64 x1, .int .u64 x2, .int .u64 x3], .string s] w0 fun e w' => e = .returned (.bool true) ∧ Below w0.heap.size w0 w' :=
  law_tie (G := GW Tryd.prog nd4Spec nd4wSpec [] [] [] [] w0) (gokW w0 namesOk_ mixed_ nd4_ok nd4w_ok) (n := 90) (f := 6) (args := [.agg [.int .u64 (.sym x0), .int .u64 (.sym x1), .int .u64 (.sym x2), .int .u64 (.sym x3)], .str (.sym s)]) (by kernel_rfl) (VCNumReads w0 x0 x1 x2 x3 s) (tieNumReads w0 x0 x1 x2 x3 s) (pureNumReads w0 x0 x1 x2 x3 s ⟨wf_u64 hx0, wf_u64 hx1, wf_u64 hx2, wf_u64 hx3, hs, hT⟩)

end Go.Proofs.YtaaobpalpcdlbaaDoor.Bits
