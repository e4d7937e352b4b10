import Derived.Test.YtaaobpalpcdlbaaDoorSxR
import Derived.Test.YtaaobpalpcdlbaaDoorProg
import Derived.Test.YtaaobpalpcdlbaaDoorNum2
import Derived.KernelRfl
namespace Go.Proofs.YtaaobpalpcdlbaaDoor.Bits
open Go Go.Sx Go.RowKit
set_option linter.unusedVariables false
set_option maxRecDepth 100000
def mulsSpec : List (FuncId × CSpec) := [(61, mul64Spec), (42, add64Spec)]
theorem muls_ok : SpecsOk Tryd.prog mulsSpec := ⟨mul64_ok, add64_ok, trivial⟩
--@SQUEEZE
theorem limbs4' {a b c d : Int} (ha : 0 ≤ a ∧ a ≤ 18446744073709551615) (hb : 0 ≤ b ∧ b ≤ 18446744073709551615) (hc : 0 ≤ c ∧ c ≤ 18446744073709551615) (hd : 0 ≤ d ∧ d ≤ 18446744073709551615) :
    limb (val4 a b c d) 0 = a ∧ limb (val4 a b c d) 1 = b ∧ limb (val4 a b c d) 2 = c ∧ limb (val4 a b c d) 3 = d := by
  have := limbs4 0 ha hb hc hd
  simpa using this
theorem mulW {x y z c : Int} (hx : 0 ≤ x ∧ x ≤ 18446744073709551615) (hy : 0 ≤ y ∧ y ≤ 18446744073709551615) (hz : 0 ≤ z ∧ z ≤ 18446744073709551615) (hc : 0 ≤ c ∧ c ≤ 18446744073709551615) {v1 v2 v3 v4 v6 v7 v8 : Int}
    (h1 : v1 = x * y / 18446744073709551616) (h2 : v2 = x * y % 18446744073709551616) (h3 : v3 = s64 v2 z 0) (h4 : v4 = c64 v2 z 0) (h6 : v6 = s64 v3 c 0) (h7 : v7 = c64 v3 c 0) (h8 : v8 = IntKind.u64.wrap (IntKind.u64.wrap (v1 + v4) + v7)) :
    v6 + v8 * 18446744073709551616 = x * y + z + c ∧ (0 ≤ v6 ∧ v6 ≤ 18446744073709551615) ∧ (0 ≤ v8 ∧ v8 ≤ 18446744073709551615) := by
  obtain ⟨p0, p1⟩ := mul_in hx.1 hx.2 hy.1 hy.2
  generalize x * y = P at *
  rw [w_u64, w_u64] at h8
  unfold s64 at h3 h6
  unfold c64 at h4 h7
  omega
theorem mulA {x y z c : Int} {K : Int → Int → Prop} (hx : 0 ≤ x ∧ x ≤ 18446744073709551615) (hy : 0 ≤ y ∧ y ≤ 18446744073709551615) (hz : 0 ≤ z ∧ z ≤ 18446744073709551615) (hc : 0 ≤ c ∧ c ≤ 18446744073709551615)
    (h : ∀ lo hi, lo + hi * 18446744073709551616 = x * y + z + c → (0 ≤ lo ∧ lo ≤ 18446744073709551615) → (0 ≤ hi ∧ hi ≤ 18446744073709551615) → K lo hi) :
    ((0 ≤ x ∧ x ≤ 18446744073709551615) ∧ 0 ≤ y ∧ y ≤ 18446744073709551615) ∧ ∀ v1, v1 = x * y / 18446744073709551616 → ∀ v2, v2 = x * y % 18446744073709551616 →
      ((0 ≤ v2 ∧ v2 ≤ 18446744073709551615) ∧ (0 ≤ z ∧ z ≤ 18446744073709551615) ∧ (0 : Int) ≤ 0 ∧ (0 : Int) ≤ 1) ∧ ∀ v3, v3 = s64 v2 z 0 → ∀ v4, v4 = c64 v2 z 0 → ∀ v5, v5 = IntKind.u64.wrap (v1 + v4) →
      ((0 ≤ v3 ∧ v3 ≤ 18446744073709551615) ∧ (0 ≤ c ∧ c ≤ 18446744073709551615) ∧ (0 : Int) ≤ 0 ∧ (0 : Int) ≤ 1) ∧ ∀ v6, v6 = s64 v3 c 0 → ∀ v7, v7 = c64 v3 c 0 → ∀ v8, v8 = IntKind.u64.wrap (v5 + v7) → K v6 v8 := by
  refine ⟨⟨hx, hy⟩, fun v1 h1 v2 h2 => ⟨⟨by omega, hz, by omega, by omega⟩, fun v3 h3 v4 h4 v5 h5 => ⟨⟨by unfold s64 at h3; omega, hc, by omega, by omega⟩, fun v6 h6 v7 h7 v8 h8 => ?_⟩⟩⟩
  subst h5
  obtain ⟨a, b, c⟩ := mulW hx hy hz hc h1 h2 h3 h4 h6 h7 h8
  exact h _ _ a b c
theorem mulB {x y z c : Int} {K : Int → Int → Prop} (hx : 0 ≤ x ∧ x ≤ 18446744073709551615) (hy : 0 ≤ y ∧ y ≤ 18446744073709551615) (hz : 0 ≤ z ∧ z ≤ 18446744073709551615) (hc : 0 ≤ c ∧ c ≤ 18446744073709551615)
    (h : ∀ lo hi, lo + hi * 18446744073709551616 = x * y + z + c → (0 ≤ lo ∧ lo ≤ 18446744073709551615) → (0 ≤ hi ∧ hi ≤ 18446744073709551615) → K lo hi) :
    ((0 ≤ x ∧ x ≤ 18446744073709551615) ∧ 0 ≤ y ∧ y ≤ 18446744073709551615) ∧ ∀ v1, v1 = x * y / 18446744073709551616 → ∀ v2, v2 = x * y % 18446744073709551616 →
      ((0 ≤ v2 ∧ v2 ≤ 18446744073709551615) ∧ (0 ≤ z ∧ z ≤ 18446744073709551615) ∧ (0 : Int) ≤ 0 ∧ (0 : Int) ≤ 1) ∧ ∀ v3, v3 = s64 v2 z 0 → ∀ v4, v4 = c64 v2 z 0 →
      ((0 ≤ v3 ∧ v3 ≤ 18446744073709551615) ∧ (0 ≤ c ∧ c ≤ 18446744073709551615) ∧ (0 : Int) ≤ 0 ∧ (0 : Int) ≤ 1) ∧ ∀ v6, v6 = s64 v3 c 0 → ∀ v7, v7 = c64 v3 c 0 → ∀ v5, v5 = IntKind.u64.wrap (v1 + v4) → ∀ v8, v8 = IntKind.u64.wrap (v5 + v7) → K v6 v8 := by
  refine ⟨⟨hx, hy⟩, fun v1 h1 v2 h2 => ⟨⟨by omega, hz, by omega, by omega⟩, fun v3 h3 v4 h4 => ⟨⟨by unfold s64 at h3; omega, hc, by omega, by omega⟩, fun v6 h6 v7 h7 v5 h5 v8 h8 => ?_⟩⟩⟩
  subst h5
  obtain ⟨a, b, c⟩ := mulW hx hy hz hc h1 h2 h3 h4 h6 h7 h8
  exact h _ _ a b c
theorem prod4 (a0 a1 a2 a3 b0 b1 b2 b3 : Int) : val4 a0 a1 a2 a3 * val4 b0 b1 b2 b3 = a0 * b0 + (a0 * b1 + a1 * b0) * 18446744073709551616 + (a0 * b2 + a1 * b1 + a2 * b0) * 340282366920938463463374607431768211456
    + (a0 * b3 + a1 * b2 + a2 * b1 + a3 * b0) * 6277101735386680763835789423207666416102355444464034512896 + (a1 * b3 + a2 * b2 + a3 * b1) * 115792089237316195423570985008687907853269984665640564039457584007913129639936
    + (a2 * b3 + a3 * b2) * 2135987035920910082395021706169552114602704522356652769947041607822219725780640550022962086936576 + a3 * b3 * 39402006196394479212279040100143613805079739270465446667948293404245721771497210611414266254884915640806627990306816 := by
  unfold val4; grind
theorem halves8 {X z0 z1 z2 z3 z4 z5 z6 z7 : Int} (h0 : 0 ≤ z0 ∧ z0 ≤ 18446744073709551615) (h1 : 0 ≤ z1 ∧ z1 ≤ 18446744073709551615) (h2 : 0 ≤ z2 ∧ z2 ≤ 18446744073709551615) (h3 : 0 ≤ z3 ∧ z3 ≤ 18446744073709551615)
    (h4 : 0 ≤ z4 ∧ z4 ≤ 18446744073709551615) (h5 : 0 ≤ z5 ∧ z5 ≤ 18446744073709551615) (h6 : 0 ≤ z6 ∧ z6 ≤ 18446744073709551615) (h7 : 0 ≤ z7 ∧ z7 ≤ 18446744073709551615)
    (h : X = val4 z0 z1 z2 z3 + val4 z4 z5 z6 z7 * 115792089237316195423570985008687907853269984665640564039457584007913129639936) :
    (z0 = limb X 0 ∧ z1 = limb X 1 ∧ z2 = limb X 2 ∧ z3 = limb X 3) ∧ z4 = limb (X / 115792089237316195423570985008687907853269984665640564039457584007913129639936) 0 ∧ z5 = limb (X / 115792089237316195423570985008687907853269984665640564039457584007913129639936) 1 ∧ z6 = limb (X / 115792089237316195423570985008687907853269984665640564039457584007913129639936) 2 ∧ z7 = limb (X / 115792089237316195423570985008687907853269984665640564039457584007913129639936) 3 := by
  have hq : X / 115792089237316195423570985008687907853269984665640564039457584007913129639936 = val4 z4 z5 z6 z7 := by
    have := val4_lt h0 h1 h2 h3
    omega
  rw [hq, h]
  obtain ⟨a, b, c, d⟩ := limbs4 (val4 z4 z5 z6 z7) h0 h1 h2 h3
  obtain ⟨a', b', c', d'⟩ := limbs4' h4 h5 h6 h7
  exact ⟨⟨a.symm, b.symm, c.symm, d.symm⟩, a'.symm, b'.symm, c'.symm, d'.symm⟩
def mulSpec : CSpec
  | [.agg [.int .u64 a0, .int .u64 a1, .int .u64 a2, .int .u64 a3], .agg [.int .u64 b0, .int .u64 b1, .int .u64 b2, .int .u64 b3]], k => ((U64 a0.val) ∧ (U64 a1.val) ∧ (U64 a2.val) ∧ (U64 a3.val) ∧ (U64 b0.val) ∧ (U64 b1.val) ∧ (U64 b2.val) ∧ (U64 b3.val)) ∧ (∀ r0 : Int, r0 = ((val4 a0.val a1.val a2.val a3.val) * (val4 b0.val b1.val b2.val b3.val)) → ∀ r1 : Int, r1 = ((val4 a0.val a1.val a2.val a3.val) * (val4 b0.val b1.val b2.val b3.val) / 115792089237316195423570985008687907853269984665640564039457584007913129639936) → k (.tup [.agg [.int .u64 (.sym (limb r0 0)), .int .u64 (.sym (limb r0 1)), .int .u64 (.sym (limb r0 2)), .int .u64 (.sym (limb r0 3))], .agg [.int .u64 (.sym (limb r1 0)), .int .u64 (.sym (limb r1 1)), .int .u64 (.sym (limb r1 2)), .int .u64 (.sym (limb r1 3))]]))
  | _, _ => False
@[simp] abbrev GMul1 (y0 y1 y2 y3 : Int) : Prop := U64 y0 ∧ U64 y1 ∧ y2 ≤ y2 ∧ y2 ≤ y3
@[simp] abbrev GMul2 (y0 y1 y2 : Int) : Prop := U64 y0 ∧ U64 0 ∧ y1 ≤ y1 ∧ y1 ≤ y2
def VCMul (a0 : Int) (a1 : Int) (a2 : Int) (a3 : Int) (b0 : Int) (b1 : Int) (b2 : Int) (b3 : Int) : Prop :=
  (U64 a0 /\ U64 b0) /\ ∀ v1, v1 = a0 * b0 / (18446744073709551616 : Int) -> ∀ v2, v2 = a0 * b0 % (18446744073709551616 : Int) -> (GMul2 v2 0 1) /\ ∀ v3, v3 = s64 v2 0 0 -> ∀ v4, v4 = c64 v2 0 0 -> ∀ v5, v5 = IntKind.u64.wrap (v1 + v4) -> (GMul2 v3 0 1) /\ ∀ v6, v6 = s64 v3 0 0 -> ∀ v7, v7 = c64 v3 0 0 -> ∀ v8, v8 = IntKind.u64.wrap (v5 + v7) -> (U64 a0 /\ U64 b1) /\ ∀ v9, v9 = a0 * b1 / (18446744073709551616 : Int) -> ∀ v10, v10 = a0 * b1 % (18446744073709551616 : Int) -> (GMul2 v10 0 1) /\ ∀ v11, v11 = s64 v10 0 0 -> ∀ v12, v12 = c64 v10 0 0 -> ∀ v13, v13 = IntKind.u64.wrap (v9 + v12) -> (GMul1 v11 v8 0 1) /\ ∀ v14, v14 = s64 v11 v8 0 -> ∀ v15, v15 = c64 v11 v8 0 -> ∀ v16, v16 = IntKind.u64.wrap (v13 + v15) -> (U64 a0 /\ U64 b2) /\ ∀ v17, v17 = a0 * b2 / (18446744073709551616 : Int) -> ∀ v18, v18 = a0 * b2 % (18446744073709551616 : Int) -> (GMul2 v18 0 1) /\ ∀ v19, v19 = s64 v18 0 0 -> ∀ v20, v20 = c64 v18 0 0 -> ∀ v21, v21 = IntKind.u64.wrap (v17 + v20) -> (GMul1 v19 v16 0 1) /\ ∀ v22, v22 = s64 v19 v16 0 -> ∀ v23, v23 = c64 v19 v16 0 -> ∀ v24, v24 = IntKind.u64.wrap (v21 + v23) -> (U64 a0 /\ U64 b3) /\ ∀ v25, v25 = a0 * b3 / (18446744073709551616 : Int) -> ∀ v26, v26 = a0 * b3 % (18446744073709551616 : Int) -> (GMul2 v26 0 1) /\ ∀ v27, v27 = s64 v26 0 0 -> ∀ v28, v28 = c64 v26 0 0 -> ∀ v29, v29 = IntKind.u64.wrap (v25 + v28) -> (GMul1 v27 v24 0 1) /\ ∀ v30, v30 = s64 v27 v24 0 -> ∀ v31, v31 = c64 v27 v24 0 -> ∀ v32, v32 = IntKind.u64.wrap (v29 + v31) -> (U64 a1 /\ U64 b0) /\ ∀ v33, v33 = a1 * b0 / (18446744073709551616 : Int) -> ∀ v34, v34 = a1 * b0 % (18446744073709551616 : Int) -> (GMul1 v34 v14 0 1) /\ ∀ v35, v35 = s64 v34 v14 0 -> ∀ v36, v36 = c64 v34 v14 0 -> ∀ v37, v37 = IntKind.u64.wrap (v33 + v36) -> (GMul2 v35 0 1) /\ ∀ v38, v38 = s64 v35 0 0 -> ∀ v39, v39 = c64 v35 0 0 -> ∀ v40, v40 = IntKind.u64.wrap (v37 + v39) -> (U64 a1 /\ U64 b1) /\ ∀ v41, v41 = a1 * b1 / (18446744073709551616 : Int) -> ∀ v42, v42 = a1 * b1 % (18446744073709551616 : Int) -> (GMul1 v42 v22 0 1) /\ ∀ v43, v43 = s64 v42 v22 0 -> ∀ v44, v44 = c64 v42 v22 0 -> ∀ v45, v45 = IntKind.u64.wrap (v41 + v44) -> (GMul1 v43 v40 0 1) /\ ∀ v46, v46 = s64 v43 v40 0 -> ∀ v47, v47 = c64 v43 v40 0 -> ∀ v48, v48 = IntKind.u64.wrap (v45 + v47) -> (U64 a1 /\ U64 b2) /\ ∀ v49, v49 = a1 * b2 / (18446744073709551616 : Int) -> ∀ v50, v50 = a1 * b2 % (18446744073709551616 : Int) -> (GMul1 v50 v30 0 1) /\ ∀ v51, v51 = s64 v50 v30 0 -> ∀ v52, v52 = c64 v50 v30 0 -> ∀ v53, v53 = IntKind.u64.wrap (v49 + v52) -> (GMul1 v51 v48 0 1) /\ ∀ v54, v54 = s64 v51 v48 0 -> ∀ v55, v55 = c64 v51 v48 0 -> ∀ v56, v56 = IntKind.u64.wrap (v53 + v55) -> (U64 a1 /\ U64 b3) /\ ∀ v57, v57 = a1 * b3 / (18446744073709551616 : Int) -> ∀ v58, v58 = a1 * b3 % (18446744073709551616 : Int) -> (GMul1 v58 v32 0 1) /\ ∀ v59, v59 = s64 v58 v32 0 -> ∀ v60, v60 = c64 v58 v32 0 -> ∀ v61, v61 = IntKind.u64.wrap (v57 + v60) -> (GMul1 v59 v56 0 1) /\ ∀ v62, v62 = s64 v59 v56 0 -> ∀ v63, v63 = c64 v59 v56 0 -> ∀ v64, v64 = IntKind.u64.wrap (v61 + v63) -> (U64 a2 /\ U64 b0) /\ ∀ v65, v65 = a2 * b0 / (18446744073709551616 : Int) -> ∀ v66, v66 = a2 * b0 % (18446744073709551616 : Int) -> (GMul1 v66 v46 0 1) /\ ∀ v67, v67 = s64 v66 v46 0 -> ∀ v68, v68 = c64 v66 v46 0 -> ∀ v69, v69 = IntKind.u64.wrap (v65 + v68) -> (GMul2 v67 0 1) /\ ∀ v70, v70 = s64 v67 0 0 -> ∀ v71, v71 = c64 v67 0 0 -> ∀ v72, v72 = IntKind.u64.wrap (v69 + v71) -> (U64 a2 /\ U64 b1) /\ ∀ v73, v73 = a2 * b1 / (18446744073709551616 : Int) -> ∀ v74, v74 = a2 * b1 % (18446744073709551616 : Int) -> (GMul1 v74 v54 0 1) /\ ∀ v75, v75 = s64 v74 v54 0 -> ∀ v76, v76 = c64 v74 v54 0 -> ∀ v77, v77 = IntKind.u64.wrap (v73 + v76) -> (GMul1 v75 v72 0 1) /\ ∀ v78, v78 = s64 v75 v72 0 -> ∀ v79, v79 = c64 v75 v72 0 -> ∀ v80, v80 = IntKind.u64.wrap (v77 + v79) -> (U64 a2 /\ U64 b2) /\ ∀ v81, v81 = a2 * b2 / (18446744073709551616 : Int) -> ∀ v82, v82 = a2 * b2 % (18446744073709551616 : Int) -> (GMul1 v82 v62 0 1) /\ ∀ v83, v83 = s64 v82 v62 0 -> ∀ v84, v84 = c64 v82 v62 0 -> ∀ v85, v85 = IntKind.u64.wrap (v81 + v84) -> (GMul1 v83 v80 0 1) /\ ∀ v86, v86 = s64 v83 v80 0 -> ∀ v87, v87 = c64 v83 v80 0 -> ∀ v88, v88 = IntKind.u64.wrap (v85 + v87) -> (U64 a2 /\ U64 b3) /\ ∀ v89, v89 = a2 * b3 / (18446744073709551616 : Int) -> ∀ v90, v90 = a2 * b3 % (18446744073709551616 : Int) -> (GMul1 v90 v64 0 1) /\ ∀ v91, v91 = s64 v90 v64 0 -> ∀ v92, v92 = c64 v90 v64 0 -> ∀ v93, v93 = IntKind.u64.wrap (v89 + v92) -> (GMul1 v91 v88 0 1) /\ ∀ v94, v94 = s64 v91 v88 0 -> ∀ v95, v95 = c64 v91 v88 0 -> ∀ v96, v96 = IntKind.u64.wrap (v93 + v95) -> (U64 a3 /\ U64 b0) /\ ∀ v97, v97 = a3 * b0 / (18446744073709551616 : Int) -> ∀ v98, v98 = a3 * b0 % (18446744073709551616 : Int) -> (GMul1 v98 v78 0 1) /\ ∀ v99, v99 = s64 v98 v78 0 -> ∀ v100, v100 = c64 v98 v78 0 -> ∀ v101, v101 = IntKind.u64.wrap (v97 + v100) -> (GMul2 v99 0 1) /\ ∀ v102, v102 = s64 v99 0 0 -> ∀ v103, v103 = c64 v99 0 0 -> ∀ v104, v104 = IntKind.u64.wrap (v101 + v103) -> (U64 a3 /\ U64 b1) /\ ∀ v105, v105 = a3 * b1 / (18446744073709551616 : Int) -> ∀ v106, v106 = a3 * b1 % (18446744073709551616 : Int) -> (GMul1 v106 v86 0 1) /\ ∀ v107, v107 = s64 v106 v86 0 -> ∀ v108, v108 = c64 v106 v86 0 -> ∀ v109, v109 = IntKind.u64.wrap (v105 + v108) -> (GMul1 v107 v104 0 1) /\ ∀ v110, v110 = s64 v107 v104 0 -> ∀ v111, v111 = c64 v107 v104 0 -> ∀ v112, v112 = IntKind.u64.wrap (v109 + v111) -> (U64 a3 /\ U64 b2) /\ ∀ v113, v113 = a3 * b2 / (18446744073709551616 : Int) -> ∀ v114, v114 = a3 * b2 % (18446744073709551616 : Int) -> (GMul1 v114 v94 0 1) /\ ∀ v115, v115 = s64 v114 v94 0 -> ∀ v116, v116 = c64 v114 v94 0 -> ∀ v117, v117 = IntKind.u64.wrap (v113 + v116) -> (GMul1 v115 v112 0 1) /\ ∀ v118, v118 = s64 v115 v112 0 -> ∀ v119, v119 = c64 v115 v112 0 -> ∀ v120, v120 = IntKind.u64.wrap (v117 + v119) -> (U64 a3 /\ U64 b3) /\ ∀ v121, v121 = a3 * b3 / (18446744073709551616 : Int) -> ∀ v122, v122 = a3 * b3 % (18446744073709551616 : Int) -> (GMul1 v122 v96 0 1) /\ ∀ v123, v123 = s64 v122 v96 0 -> ∀ v124, v124 = c64 v122 v96 0 -> ∀ v125, v125 = IntKind.u64.wrap (v121 + v124) -> (GMul1 v123 v120 0 1) /\ ∀ v126, v126 = s64 v123 v120 0 -> ∀ v127, v127 = c64 v123 v120 0 -> ∀ v128, v128 = IntKind.u64.wrap (v125 + v127) -> ((IntKind.u64 = IntKind.u64 /\ v6 = limb (val4 a0 a1 a2 a3 * val4 b0 b1 b2 b3) 0) /\ (IntKind.u64 = IntKind.u64 /\ v38 = limb (val4 a0 a1 a2 a3 * val4 b0 b1 b2 b3) 1) /\ (IntKind.u64 = IntKind.u64 /\ v70 = limb (val4 a0 a1 a2 a3 * val4 b0 b1 b2 b3) 2) /\ (IntKind.u64 = IntKind.u64 /\ v102 = limb (val4 a0 a1 a2 a3 * val4 b0 b1 b2 b3) 3) /\ True) /\ ((IntKind.u64 = IntKind.u64 /\ v110 = limb (val4 a0 a1 a2 a3 * val4 b0 b1 b2 b3 / (115792089237316195423570985008687907853269984665640564039457584007913129639936 : Int)) 0) /\ (IntKind.u64 = IntKind.u64 /\ v118 = limb (val4 a0 a1 a2 a3 * val4 b0 b1 b2 b3 / (115792089237316195423570985008687907853269984665640564039457584007913129639936 : Int)) 1) /\ (IntKind.u64 = IntKind.u64 /\ v126 = limb (val4 a0 a1 a2 a3 * val4 b0 b1 b2 b3 / (115792089237316195423570985008687907853269984665640564039457584007913129639936 : Int)) 2) /\ (IntKind.u64 = IntKind.u64 /\ v128 = limb (val4 a0 a1 a2 a3 * val4 b0 b1 b2 b3 / (115792089237316195423570985008687907853269984665640564039457584007913129639936 : Int)) 3) /\ True) /\ True
theorem tieMul (w0 : World) (a0 : Int) (a1 : Int) (a2 : Int) (a3 : Int) (b0 : Int) (b1 : Int) (b2 : Int) (b3 : Int) : VCMul a0 a1 a2 a3 b0 b1 b2 b3 = ((recN (GC Tryd.prog mulsSpec w0) 40).call 12 [.agg [.int .u64 (.sym a0), .int .u64 (.sym a1), .int .u64 (.sym a2), .int .u64 (.sym a3)], .agg [.int .u64 (.sym b0), .int .u64 (.sym b1), .int .u64 (.sym b2), .int .u64 (.sym b3)]] [] (fun r__ _ => eqV r__ (.tup [.agg [.int .u64 (.sym (limb ((val4 a0 a1 a2 a3) * (val4 b0 b1 b2 b3)) 0)), .int .u64 (.sym (limb ((val4 a0 a1 a2 a3) * (val4 b0 b1 b2 b3)) 1)), .int .u64 (.sym (limb ((val4 a0 a1 a2 a3) * (val4 b0 b1 b2 b3)) 2)), .int .u64 (.sym (limb ((val4 a0 a1 a2 a3) * (val4 b0 b1 b2 b3)) 3))], .agg [.int .u64 (.sym (limb ((val4 a0 a1 a2 a3) * (val4 b0 b1 b2 b3) / 115792089237316195423570985008687907853269984665640564039457584007913129639936) 0)), .int .u64 (.sym (limb ((val4 a0 a1 a2 a3) * (val4 b0 b1 b2 b3) / 115792089237316195423570985008687907853269984665640564039457584007913129639936) 1)), .int .u64 (.sym (limb ((val4 a0 a1 a2 a3) * (val4 b0 b1 b2 b3) / 115792089237316195423570985008687907853269984665640564039457584007913129639936) 2)), .int .u64 (.sym (limb ((val4 a0 a1 a2 a3) * (val4 b0 b1 b2 b3) / 115792089237316195423570985008687907853269984665640564039457584007913129639936) 3))]]))) := by kernel_rfl
theorem pureMul (a0 a1 a2 a3 b0 b1 b2 b3 : Int) (h : U64 a0 ∧ U64 a1 ∧ U64 a2 ∧ U64 a3 ∧ U64 b0 ∧ U64 b1 ∧ U64 b2 ∧ U64 b3) : VCMul a0 a1 a2 a3 b0 b1 b2 b3 := by
  obtain ⟨ha0, ha1, ha2, ha3, hb0, hb1, hb2, hb3⟩ := h
  have n0 : (0 : Int) ≤ 0 ∧ (0 : Int) ≤ 18446744073709551615 := by omega
  refine mulA ha0 hb0 n0 n0 (fun z00 c00 e00 r00 q00 => ?_)
  refine mulA ha0 hb1 n0 q00 (fun z01 c01 e01 r01 q01 => ?_)
  refine mulA ha0 hb2 n0 q01 (fun z02 c02 e02 r02 q02 => ?_)
  refine mulA ha0 hb3 n0 q02 (fun z03 c03 e03 r03 q03 => ?_)
  refine mulA ha1 hb0 r01 n0 (fun z10 c10 e10 r10 q10 => ?_)
  refine mulA ha1 hb1 r02 q10 (fun z11 c11 e11 r11 q11 => ?_)
  refine mulA ha1 hb2 r03 q11 (fun z12 c12 e12 r12 q12 => ?_)
  refine mulA ha1 hb3 q03 q12 (fun z13 c13 e13 r13 q13 => ?_)
  refine mulA ha2 hb0 r11 n0 (fun z20 c20 e20 r20 q20 => ?_)
  refine mulA ha2 hb1 r12 q20 (fun z21 c21 e21 r21 q21 => ?_)
  refine mulA ha2 hb2 r13 q21 (fun z22 c22 e22 r22 q22 => ?_)
  refine mulA ha2 hb3 q13 q22 (fun z23 c23 e23 r23 q23 => ?_)
  refine mulA ha3 hb0 r21 n0 (fun z30 c30 e30 r30 q30 => ?_)
  refine mulA ha3 hb1 r22 q30 (fun z31 c31 e31 r31 q31 => ?_)
  refine mulA ha3 hb2 r23 q31 (fun z32 c32 e32 r32 q32 => ?_)
  refine mulA ha3 hb3 q23 q32 (fun z33 c33 e33 r33 q33 => ?_)
  have hp := prod4 a0 a1 a2 a3 b0 b1 b2 b3
  generalize a0 * b0 = p00 at *
  generalize a0 * b1 = p01 at *
  generalize a0 * b2 = p02 at *
  generalize a0 * b3 = p03 at *
  generalize a1 * b0 = p10 at *
  generalize a1 * b1 = p11 at *
  generalize a1 * b2 = p12 at *
  generalize a1 * b3 = p13 at *
  generalize a2 * b0 = p20 at *
  generalize a2 * b1 = p21 at *
  generalize a2 * b2 = p22 at *
  generalize a2 * b3 = p23 at *
  generalize a3 * b0 = p30 at *
  generalize a3 * b1 = p31 at *
  generalize a3 * b2 = p32 at *
  generalize a3 * b3 = p33 at *
  obtain ⟨⟨l0, l1, l2, l3⟩, l4, l5, l6, l7⟩ := halves8 (X := val4 a0 a1 a2 a3 * val4 b0 b1 b2 b3) r00 r10 r20 r30 r31 r32 r33 q33 (by rw [hp]; unfold val4; omega)
  exact ⟨⟨⟨rfl, l0⟩, ⟨rfl, l1⟩, ⟨rfl, l2⟩, ⟨rfl, l3⟩, trivial⟩, ⟨⟨rfl, l4⟩, ⟨rfl, l5⟩, ⟨rfl, l6⟩, ⟨rfl, l7⟩, trivial⟩, trivial⟩
theorem mul_ok : SpecOk Tryd.prog 12 mulSpec := by
  intro args k h
  unfold mulSpec at h
  split at h
  · rename_i a0 a1 a2 a3 b0 b1 b2 b3
    obtain ⟨hr, h⟩ := h
    exact ⟨_, h _ rfl _ rfl, PureOk.of_tie (GC Tryd.prog mulsSpec) (fun w__ => gok w__ namesOk_ mixed_ muls_ok) (fun _ => rfl) (fun _ => rfl) (args' := [.agg [.int .u64 (.sym a0.val), .int .u64 (.sym a1.val), .int .u64 (.sym a2.val), .int .u64 (.sym a3.val)], .agg [.int .u64 (.sym b0.val), .int .u64 (.sym b1.val), .int .u64 (.sym b2.val), .int .u64 (.sym b3.val)]]) ⟨⟨⟨rfl, rfl⟩, ⟨rfl, rfl⟩, ⟨rfl, rfl⟩, ⟨rfl, rfl⟩, trivial⟩, ⟨⟨rfl, rfl⟩, ⟨rfl, rfl⟩, ⟨rfl, rfl⟩, ⟨rfl, rfl⟩, trivial⟩, trivial⟩ 40 (fun w__ => VCMul a0.val a1.val a2.val a3.val b0.val b1.val b2.val b3.val) (fun w__ => tieMul w__ a0.val a1.val a2.val a3.val b0.val b1.val b2.val b3.val) (fun w__ => pureMul a0.val a1.val a2.val a3.val b0.val b1.val b2.val b3.val hr)⟩
  · exact h.elim



end Go.Proofs.YtaaobpalpcdlbaaDoor.Bits
