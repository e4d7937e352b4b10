import Derived.Test.YtaaobpalpcdlbaaDoorSxR
import Derived.Test.YtaaobpalpcdlbaaDoorProg
import Derived.Test.YtaaobpalpcdlbaaDoorNum12
import Derived.KernelRfl
namespace Go.Proofs.YtaaobpalpcdlbaaDoor.Bits
open Go Go.Sx Go.RowKit
set_option linter.unusedVariables false
set_option linter.unusedSimpArgs false
set_option maxRecDepth 100000
def nm1Spec : List (FuncId × CSpec) := []
theorem nm1_ok : SpecsOk Tryd.prog nm1Spec := trivial
theorem lowM {a : Int} {K : Int → Prop} (ha : U64 a) (h : ∀ x, x = a % 4294967296 → K x) : ∀ v1, v1 = shrI IntKind.u64 a (0 : Int) → ∀ v2, v2 = bitI BinOp.and IntKind.u64 v1 (4294967295 : Int) → K v2 := by
  intro v1 h1 v2 h2
  rw [shrN .u64 a 0 0 1] at h1
  have e : v1 = a := by rw [h1]; omega
  rw [e, and_low_u64 ha 32 4294967295 4294967296] at h2
  exact h _ h2
theorem highM {a : Int} {K : Int → Prop} (ha : U64 a) (h : ∀ x, x = a / 4294967296 → K x) : ∀ v1, v1 = shrI IntKind.u64 a (32 : Int) → ∀ v2, v2 = bitI BinOp.and IntKind.u64 v1 (4294967295 : Int) → K v2 := by
  intro v1 h1 v2 h2
  rw [shrN .u64 a 32 32 4294967296] at h1
  unfold U64 at ha
  have e : U64 v1 := by unfold U64; omega
  rw [and_low_u64 e 32 4294967295 4294967296] at h2
  exact h _ (by omega)
theorem stepM {x y z c : Int} {K : Int → Int → Prop} (hx : 0 ≤ x ∧ x ≤ 4294967295) (hy : 0 ≤ y ∧ y ≤ 4294967295) (hz : 0 ≤ z ∧ z ≤ 4294967295) (hc : 0 ≤ c ∧ c ≤ 4294967295)
    (h : ∀ lo hi, lo + hi * 4294967296 = x * y + z + c → (0 ≤ lo ∧ lo ≤ 4294967295) → (0 ≤ hi ∧ hi ≤ 4294967295) → K lo hi) :
    ∀ v1, v1 = IntKind.u64.wrap (x * y) → ∀ v2, v2 = IntKind.u64.wrap (v1 + z) → ∀ v3, v3 = IntKind.u64.wrap (v2 + c) → ∀ v4, v4 = bitI BinOp.and IntKind.u64 v3 (4294967295 : Int) → ∀ v5, v5 = shrI IntKind.u64 v3 (32 : Int) → K v4 v5 := by
  intro v1 h1 v2 h2 v3 h3 v4 h4 v5 h5
  have p0 : 0 ≤ x * y := Int.mul_nonneg hx.1 hy.1
  have p1 : x * y ≤ 4294967295 * 4294967295 := by
    have q1 : x * y ≤ x * 4294967295 := Int.mul_le_mul_of_nonneg_left hy.2 hx.1
    omega
  generalize x * y = P at *
  rw [w_u64] at h1 h2 h3
  have e3 : v3 = P + z + c := by omega
  have u3 : U64 v3 := by unfold U64; omega
  rw [and_low_u64 u3 32 4294967295 4294967296] at h4
  rw [shrN .u64 v3 32 32 4294967296] at h5
  exact h v4 v5 (by omega) (by omega) (by omega)
theorem or_commM (x y : Int) : bitI .or .u64 x y = bitI .or .u64 y x := by rw [bit_or, bit_or, Nat.or_comm]
theorem orM {u v : Int} {K : Int → Prop} (hu : 0 ≤ u ∧ u ≤ 4294967295) (hv : 0 ≤ v ∧ v ≤ 4294967295) (h : ∀ w, w = u + v * 4294967296 → K w) :
    ∀ s, s = shlI IntKind.u64 v (32 : Int) → ∀ w, w = bitI BinOp.or IntKind.u64 u s → K w := by
  intro s hs w hw
  rw [shlN .u64 v 32 32 4294967296, w_u64] at hs
  have e : s = v * 2 ^ 32 := by rw [hs]; omega
  refine h w ?_
  rw [hw, e, or_commM, or_parts_u64 hv.1 hu.1 (by omega) (by omega) (by omega) (by omega)]
  omega
def rMulSpec : CSpec
  | [.agg [.int .u64 a0, .int .u64 a1, .int .u64 a2, .int .u64 a3], .agg [.int .u64 b0, .int .u64 b1, .int .u64 b2, .int .u64 b3]], k => ((U64 a0.val) ∧ (U64 a1.val) ∧ (U64 a2.val) ∧ (U64 a3.val) ∧ (U64 b0.val) ∧ (U64 b1.val) ∧ (U64 b2.val) ∧ (U64 b3.val)) ∧ (∀ r0 : Int, r0 = ((val4 a0.val a1.val a2.val a3.val) * (val4 b0.val b1.val b2.val b3.val)) → ∀ r1 : Int, r1 = ((val4 a0.val a1.val a2.val a3.val) * (val4 b0.val b1.val b2.val b3.val) / 115792089237316195423570985008687907853269984665640564039457584007913129639936) → k (.tup [.agg [.int .u64 (.sym (limb r0 0)), .int .u64 (.sym (limb r0 1)), .int .u64 (.sym (limb r0 2)), .int .u64 (.sym (limb r0 3))], .agg [.int .u64 (.sym (limb r1 0)), .int .u64 (.sym (limb r1 1)), .int .u64 (.sym (limb r1 2)), .int .u64 (.sym (limb r1 3))]]))
  | _, _ => False
def VCRMul (a0 : Int) (a1 : Int) (a2 : Int) (a3 : Int) (b0 : Int) (b1 : Int) (b2 : Int) (b3 : Int) : Prop :=
  ∀ v1, v1 = shrI IntKind.u64 a0 (0 : Int) -> ∀ v2, v2 = bitI BinOp.and IntKind.u64 v1 (4294967295 : Int) -> ∀ v3, v3 = shrI IntKind.u64 b0 (0 : Int) -> ∀ v4, v4 = bitI BinOp.and IntKind.u64 v3 (4294967295 : Int) -> ∀ v5, v5 = shrI IntKind.u64 a0 (32 : Int) -> ∀ v6, v6 = bitI BinOp.and IntKind.u64 v5 (4294967295 : Int) -> ∀ v7, v7 = shrI IntKind.u64 b0 (32 : Int) -> ∀ v8, v8 = bitI BinOp.and IntKind.u64 v7 (4294967295 : Int) -> ∀ v9, v9 = shrI IntKind.u64 a1 (0 : Int) -> ∀ v10, v10 = bitI BinOp.and IntKind.u64 v9 (4294967295 : Int) -> ∀ v11, v11 = shrI IntKind.u64 b1 (0 : Int) -> ∀ v12, v12 = bitI BinOp.and IntKind.u64 v11 (4294967295 : Int) -> ∀ v13, v13 = shrI IntKind.u64 a1 (32 : Int) -> ∀ v14, v14 = bitI BinOp.and IntKind.u64 v13 (4294967295 : Int) -> ∀ v15, v15 = shrI IntKind.u64 b1 (32 : Int) -> ∀ v16, v16 = bitI BinOp.and IntKind.u64 v15 (4294967295 : Int) -> ∀ v17, v17 = shrI IntKind.u64 a2 (0 : Int) -> ∀ v18, v18 = bitI BinOp.and IntKind.u64 v17 (4294967295 : Int) -> ∀ v19, v19 = shrI IntKind.u64 b2 (0 : Int) -> ∀ v20, v20 = bitI BinOp.and IntKind.u64 v19 (4294967295 : Int) -> ∀ v21, v21 = shrI IntKind.u64 a2 (32 : Int) -> ∀ v22, v22 = bitI BinOp.and IntKind.u64 v21 (4294967295 : Int) -> ∀ v23, v23 = shrI IntKind.u64 b2 (32 : Int) -> ∀ v24, v24 = bitI BinOp.and IntKind.u64 v23 (4294967295 : Int) -> ∀ v25, v25 = shrI IntKind.u64 a3 (0 : Int) -> ∀ v26, v26 = bitI BinOp.and IntKind.u64 v25 (4294967295 : Int) -> ∀ v27, v27 = shrI IntKind.u64 b3 (0 : Int) -> ∀ v28, v28 = bitI BinOp.and IntKind.u64 v27 (4294967295 : Int) -> ∀ v29, v29 = shrI IntKind.u64 a3 (32 : Int) -> ∀ v30, v30 = bitI BinOp.and IntKind.u64 v29 (4294967295 : Int) -> ∀ v31, v31 = shrI IntKind.u64 b3 (32 : Int) -> ∀ v32, v32 = bitI BinOp.and IntKind.u64 v31 (4294967295 : Int) -> ∀ v33, v33 = IntKind.u64.wrap (v2 * v4) -> ∀ v34, v34 = IntKind.u64.wrap (v33 + (0 : Int)) -> ∀ v35, v35 = IntKind.u64.wrap (v34 + (0 : Int)) -> ∀ v36, v36 = bitI BinOp.and IntKind.u64 v35 (4294967295 : Int) -> ∀ v37, v37 = shrI IntKind.u64 v35 (32 : Int) -> ∀ v38, v38 = IntKind.u64.wrap (v2 * v8) -> ∀ v39, v39 = IntKind.u64.wrap (v38 + (0 : Int)) -> ∀ v40, v40 = IntKind.u64.wrap (v39 + v37) -> ∀ v41, v41 = bitI BinOp.and IntKind.u64 v40 (4294967295 : Int) -> ∀ v42, v42 = shrI IntKind.u64 v40 (32 : Int) -> ∀ v43, v43 = IntKind.u64.wrap (v2 * v12) -> ∀ v44, v44 = IntKind.u64.wrap (v43 + (0 : Int)) -> ∀ v45, v45 = IntKind.u64.wrap (v44 + v42) -> ∀ v46, v46 = bitI BinOp.and IntKind.u64 v45 (4294967295 : Int) -> ∀ v47, v47 = shrI IntKind.u64 v45 (32 : Int) -> ∀ v48, v48 = IntKind.u64.wrap (v2 * v16) -> ∀ v49, v49 = IntKind.u64.wrap (v48 + (0 : Int)) -> ∀ v50, v50 = IntKind.u64.wrap (v49 + v47) -> ∀ v51, v51 = bitI BinOp.and IntKind.u64 v50 (4294967295 : Int) -> ∀ v52, v52 = shrI IntKind.u64 v50 (32 : Int) -> ∀ v53, v53 = IntKind.u64.wrap (v2 * v20) -> ∀ v54, v54 = IntKind.u64.wrap (v53 + (0 : Int)) -> ∀ v55, v55 = IntKind.u64.wrap (v54 + v52) -> ∀ v56, v56 = bitI BinOp.and IntKind.u64 v55 (4294967295 : Int) -> ∀ v57, v57 = shrI IntKind.u64 v55 (32 : Int) -> ∀ v58, v58 = IntKind.u64.wrap (v2 * v24) -> ∀ v59, v59 = IntKind.u64.wrap (v58 + (0 : Int)) -> ∀ v60, v60 = IntKind.u64.wrap (v59 + v57) -> ∀ v61, v61 = bitI BinOp.and IntKind.u64 v60 (4294967295 : Int) -> ∀ v62, v62 = shrI IntKind.u64 v60 (32 : Int) -> ∀ v63, v63 = IntKind.u64.wrap (v2 * v28) -> ∀ v64, v64 = IntKind.u64.wrap (v63 + (0 : Int)) -> ∀ v65, v65 = IntKind.u64.wrap (v64 + v62) -> ∀ v66, v66 = bitI BinOp.and IntKind.u64 v65 (4294967295 : Int) -> ∀ v67, v67 = shrI IntKind.u64 v65 (32 : Int) -> ∀ v68, v68 = IntKind.u64.wrap (v2 * v32) -> ∀ v69, v69 = IntKind.u64.wrap (v68 + (0 : Int)) -> ∀ v70, v70 = IntKind.u64.wrap (v69 + v67) -> ∀ v71, v71 = bitI BinOp.and IntKind.u64 v70 (4294967295 : Int) -> ∀ v72, v72 = shrI IntKind.u64 v70 (32 : Int) -> ∀ v73, v73 = IntKind.u64.wrap (v6 * v4) -> ∀ v74, v74 = IntKind.u64.wrap (v73 + v41) -> ∀ v75, v75 = IntKind.u64.wrap (v74 + (0 : Int)) -> ∀ v76, v76 = bitI BinOp.and IntKind.u64 v75 (4294967295 : Int) -> ∀ v77, v77 = shrI IntKind.u64 v75 (32 : Int) -> ∀ v78, v78 = IntKind.u64.wrap (v6 * v8) -> ∀ v79, v79 = IntKind.u64.wrap (v78 + v46) -> ∀ v80, v80 = IntKind.u64.wrap (v79 + v77) -> ∀ v81, v81 = bitI BinOp.and IntKind.u64 v80 (4294967295 : Int) -> ∀ v82, v82 = shrI IntKind.u64 v80 (32 : Int) -> ∀ v83, v83 = IntKind.u64.wrap (v6 * v12) -> ∀ v84, v84 = IntKind.u64.wrap (v83 + v51) -> ∀ v85, v85 = IntKind.u64.wrap (v84 + v82) -> ∀ v86, v86 = bitI BinOp.and IntKind.u64 v85 (4294967295 : Int) -> ∀ v87, v87 = shrI IntKind.u64 v85 (32 : Int) -> ∀ v88, v88 = IntKind.u64.wrap (v6 * v16) -> ∀ v89, v89 = IntKind.u64.wrap (v88 + v56) -> ∀ v90, v90 = IntKind.u64.wrap (v89 + v87) -> ∀ v91, v91 = bitI BinOp.and IntKind.u64 v90 (4294967295 : Int) -> ∀ v92, v92 = shrI IntKind.u64 v90 (32 : Int) -> ∀ v93, v93 = IntKind.u64.wrap (v6 * v20) -> ∀ v94, v94 = IntKind.u64.wrap (v93 + v61) -> ∀ v95, v95 = IntKind.u64.wrap (v94 + v92) -> ∀ v96, v96 = bitI BinOp.and IntKind.u64 v95 (4294967295 : Int) -> ∀ v97, v97 = shrI IntKind.u64 v95 (32 : Int) -> ∀ v98, v98 = IntKind.u64.wrap (v6 * v24) -> ∀ v99, v99 = IntKind.u64.wrap (v98 + v66) -> ∀ v100, v100 = IntKind.u64.wrap (v99 + v97) -> ∀ v101, v101 = bitI BinOp.and IntKind.u64 v100 (4294967295 : Int) -> ∀ v102, v102 = shrI IntKind.u64 v100 (32 : Int) -> ∀ v103, v103 = IntKind.u64.wrap (v6 * v28) -> ∀ v104, v104 = IntKind.u64.wrap (v103 + v71) -> ∀ v105, v105 = IntKind.u64.wrap (v104 + v102) -> ∀ v106, v106 = bitI BinOp.and IntKind.u64 v105 (4294967295 : Int) -> ∀ v107, v107 = shrI IntKind.u64 v105 (32 : Int) -> ∀ v108, v108 = IntKind.u64.wrap (v6 * v32) -> ∀ v109, v109 = IntKind.u64.wrap (v108 + v72) -> ∀ v110, v110 = IntKind.u64.wrap (v109 + v107) -> ∀ v111, v111 = bitI BinOp.and IntKind.u64 v110 (4294967295 : Int) -> ∀ v112, v112 = shrI IntKind.u64 v110 (32 : Int) -> ∀ v113, v113 = IntKind.u64.wrap (v10 * v4) -> ∀ v114, v114 = IntKind.u64.wrap (v113 + v81) -> ∀ v115, v115 = IntKind.u64.wrap (v114 + (0 : Int)) -> ∀ v116, v116 = bitI BinOp.and IntKind.u64 v115 (4294967295 : Int) -> ∀ v117, v117 = shrI IntKind.u64 v115 (32 : Int) -> ∀ v118, v118 = IntKind.u64.wrap (v10 * v8) -> ∀ v119, v119 = IntKind.u64.wrap (v118 + v86) -> ∀ v120, v120 = IntKind.u64.wrap (v119 + v117) -> ∀ v121, v121 = bitI BinOp.and IntKind.u64 v120 (4294967295 : Int) -> ∀ v122, v122 = shrI IntKind.u64 v120 (32 : Int) -> ∀ v123, v123 = IntKind.u64.wrap (v10 * v12) -> ∀ v124, v124 = IntKind.u64.wrap (v123 + v91) -> ∀ v125, v125 = IntKind.u64.wrap (v124 + v122) -> ∀ v126, v126 = bitI BinOp.and IntKind.u64 v125 (4294967295 : Int) -> ∀ v127, v127 = shrI IntKind.u64 v125 (32 : Int) -> ∀ v128, v128 = IntKind.u64.wrap (v10 * v16) -> ∀ v129, v129 = IntKind.u64.wrap (v128 + v96) -> ∀ v130, v130 = IntKind.u64.wrap (v129 + v127) -> ∀ v131, v131 = bitI BinOp.and IntKind.u64 v130 (4294967295 : Int) -> ∀ v132, v132 = shrI IntKind.u64 v130 (32 : Int) -> ∀ v133, v133 = IntKind.u64.wrap (v10 * v20) -> ∀ v134, v134 = IntKind.u64.wrap (v133 + v101) -> ∀ v135, v135 = IntKind.u64.wrap (v134 + v132) -> ∀ v136, v136 = bitI BinOp.and IntKind.u64 v135 (4294967295 : Int) -> ∀ v137, v137 = shrI IntKind.u64 v135 (32 : Int) -> ∀ v138, v138 = IntKind.u64.wrap (v10 * v24) -> ∀ v139, v139 = IntKind.u64.wrap (v138 + v106) -> ∀ v140, v140 = IntKind.u64.wrap (v139 + v137) -> ∀ v141, v141 = bitI BinOp.and IntKind.u64 v140 (4294967295 : Int) -> ∀ v142, v142 = shrI IntKind.u64 v140 (32 : Int) -> ∀ v143, v143 = IntKind.u64.wrap (v10 * v28) -> ∀ v144, v144 = IntKind.u64.wrap (v143 + v111) -> ∀ v145, v145 = IntKind.u64.wrap (v144 + v142) -> ∀ v146, v146 = bitI BinOp.and IntKind.u64 v145 (4294967295 : Int) -> ∀ v147, v147 = shrI IntKind.u64 v145 (32 : Int) -> ∀ v148, v148 = IntKind.u64.wrap (v10 * v32) -> ∀ v149, v149 = IntKind.u64.wrap (v148 + v112) -> ∀ v150, v150 = IntKind.u64.wrap (v149 + v147) -> ∀ v151, v151 = bitI BinOp.and IntKind.u64 v150 (4294967295 : Int) -> ∀ v152, v152 = shrI IntKind.u64 v150 (32 : Int) -> ∀ v153, v153 = IntKind.u64.wrap (v14 * v4) -> ∀ v154, v154 = IntKind.u64.wrap (v153 + v121) -> ∀ v155, v155 = IntKind.u64.wrap (v154 + (0 : Int)) -> ∀ v156, v156 = bitI BinOp.and IntKind.u64 v155 (4294967295 : Int) -> ∀ v157, v157 = shrI IntKind.u64 v155 (32 : Int) -> ∀ v158, v158 = IntKind.u64.wrap (v14 * v8) -> ∀ v159, v159 = IntKind.u64.wrap (v158 + v126) -> ∀ v160, v160 = IntKind.u64.wrap (v159 + v157) -> ∀ v161, v161 = bitI BinOp.and IntKind.u64 v160 (4294967295 : Int) -> ∀ v162, v162 = shrI IntKind.u64 v160 (32 : Int) -> ∀ v163, v163 = IntKind.u64.wrap (v14 * v12) -> ∀ v164, v164 = IntKind.u64.wrap (v163 + v131) -> ∀ v165, v165 = IntKind.u64.wrap (v164 + v162) -> ∀ v166, v166 = bitI BinOp.and IntKind.u64 v165 (4294967295 : Int) -> ∀ v167, v167 = shrI IntKind.u64 v165 (32 : Int) -> ∀ v168, v168 = IntKind.u64.wrap (v14 * v16) -> ∀ v169, v169 = IntKind.u64.wrap (v168 + v136) -> ∀ v170, v170 = IntKind.u64.wrap (v169 + v167) -> ∀ v171, v171 = bitI BinOp.and IntKind.u64 v170 (4294967295 : Int) -> ∀ v172, v172 = shrI IntKind.u64 v170 (32 : Int) -> ∀ v173, v173 = IntKind.u64.wrap (v14 * v20) -> ∀ v174, v174 = IntKind.u64.wrap (v173 + v141) -> ∀ v175, v175 = IntKind.u64.wrap (v174 + v172) -> ∀ v176, v176 = bitI BinOp.and IntKind.u64 v175 (4294967295 : Int) -> ∀ v177, v177 = shrI IntKind.u64 v175 (32 : Int) -> ∀ v178, v178 = IntKind.u64.wrap (v14 * v24) -> ∀ v179, v179 = IntKind.u64.wrap (v178 + v146) -> ∀ v180, v180 = IntKind.u64.wrap (v179 + v177) -> ∀ v181, v181 = bitI BinOp.and IntKind.u64 v180 (4294967295 : Int) -> ∀ v182, v182 = shrI IntKind.u64 v180 (32 : Int) -> ∀ v183, v183 = IntKind.u64.wrap (v14 * v28) -> ∀ v184, v184 = IntKind.u64.wrap (v183 + v151) -> ∀ v185, v185 = IntKind.u64.wrap (v184 + v182) -> ∀ v186, v186 = bitI BinOp.and IntKind.u64 v185 (4294967295 : Int) -> ∀ v187, v187 = shrI IntKind.u64 v185 (32 : Int) -> ∀ v188, v188 = IntKind.u64.wrap (v14 * v32) -> ∀ v189, v189 = IntKind.u64.wrap (v188 + v152) -> ∀ v190, v190 = IntKind.u64.wrap (v189 + v187) -> ∀ v191, v191 = bitI BinOp.and IntKind.u64 v190 (4294967295 : Int) -> ∀ v192, v192 = shrI IntKind.u64 v190 (32 : Int) -> ∀ v193, v193 = IntKind.u64.wrap (v18 * v4) -> ∀ v194, v194 = IntKind.u64.wrap (v193 + v161) -> ∀ v195, v195 = IntKind.u64.wrap (v194 + (0 : Int)) -> ∀ v196, v196 = bitI BinOp.and IntKind.u64 v195 (4294967295 : Int) -> ∀ v197, v197 = shrI IntKind.u64 v195 (32 : Int) -> ∀ v198, v198 = IntKind.u64.wrap (v18 * v8) -> ∀ v199, v199 = IntKind.u64.wrap (v198 + v166) -> ∀ v200, v200 = IntKind.u64.wrap (v199 + v197) -> ∀ v201, v201 = bitI BinOp.and IntKind.u64 v200 (4294967295 : Int) -> ∀ v202, v202 = shrI IntKind.u64 v200 (32 : Int) -> ∀ v203, v203 = IntKind.u64.wrap (v18 * v12) -> ∀ v204, v204 = IntKind.u64.wrap (v203 + v171) -> ∀ v205, v205 = IntKind.u64.wrap (v204 + v202) -> ∀ v206, v206 = bitI BinOp.and IntKind.u64 v205 (4294967295 : Int) -> ∀ v207, v207 = shrI IntKind.u64 v205 (32 : Int) -> ∀ v208, v208 = IntKind.u64.wrap (v18 * v16) -> ∀ v209, v209 = IntKind.u64.wrap (v208 + v176) -> ∀ v210, v210 = IntKind.u64.wrap (v209 + v207) -> ∀ v211, v211 = bitI BinOp.and IntKind.u64 v210 (4294967295 : Int) -> ∀ v212, v212 = shrI IntKind.u64 v210 (32 : Int) -> ∀ v213, v213 = IntKind.u64.wrap (v18 * v20) -> ∀ v214, v214 = IntKind.u64.wrap (v213 + v181) -> ∀ v215, v215 = IntKind.u64.wrap (v214 + v212) -> ∀ v216, v216 = bitI BinOp.and IntKind.u64 v215 (4294967295 : Int) -> ∀ v217, v217 = shrI IntKind.u64 v215 (32 : Int) -> ∀ v218, v218 = IntKind.u64.wrap (v18 * v24) -> ∀ v219, v219 = IntKind.u64.wrap (v218 + v186) -> ∀ v220, v220 = IntKind.u64.wrap (v219 + v217) -> ∀ v221, v221 = bitI BinOp.and IntKind.u64 v220 (4294967295 : Int) -> ∀ v222, v222 = shrI IntKind.u64 v220 (32 : Int) -> ∀ v223, v223 = IntKind.u64.wrap (v18 * v28) -> ∀ v224, v224 = IntKind.u64.wrap (v223 + v191) -> ∀ v225, v225 = IntKind.u64.wrap (v224 + v222) -> ∀ v226, v226 = bitI BinOp.and IntKind.u64 v225 (4294967295 : Int) -> ∀ v227, v227 = shrI IntKind.u64 v225 (32 : Int) -> ∀ v228, v228 = IntKind.u64.wrap (v18 * v32) -> ∀ v229, v229 = IntKind.u64.wrap (v228 + v192) -> ∀ v230, v230 = IntKind.u64.wrap (v229 + v227) -> ∀ v231, v231 = bitI BinOp.and IntKind.u64 v230 (4294967295 : Int) -> ∀ v232, v232 = shrI IntKind.u64 v230 (32 : Int) -> ∀ v233, v233 = IntKind.u64.wrap (v22 * v4) -> ∀ v234, v234 = IntKind.u64.wrap (v233 + v201) -> ∀ v235, v235 = IntKind.u64.wrap (v234 + (0 : Int)) -> ∀ v236, v236 = bitI BinOp.and IntKind.u64 v235 (4294967295 : Int) -> ∀ v237, v237 = shrI IntKind.u64 v235 (32 : Int) -> ∀ v238, v238 = IntKind.u64.wrap (v22 * v8) -> ∀ v239, v239 = IntKind.u64.wrap (v238 + v206) -> ∀ v240, v240 = IntKind.u64.wrap (v239 + v237) -> ∀ v241, v241 = bitI BinOp.and IntKind.u64 v240 (4294967295 : Int) -> ∀ v242, v242 = shrI IntKind.u64 v240 (32 : Int) -> ∀ v243, v243 = IntKind.u64.wrap (v22 * v12) -> ∀ v244, v244 = IntKind.u64.wrap (v243 + v211) -> ∀ v245, v245 = IntKind.u64.wrap (v244 + v242) -> ∀ v246, v246 = bitI BinOp.and IntKind.u64 v245 (4294967295 : Int) -> ∀ v247, v247 = shrI IntKind.u64 v245 (32 : Int) -> ∀ v248, v248 = IntKind.u64.wrap (v22 * v16) -> ∀ v249, v249 = IntKind.u64.wrap (v248 + v216) -> ∀ v250, v250 = IntKind.u64.wrap (v249 + v247) -> ∀ v251, v251 = bitI BinOp.and IntKind.u64 v250 (4294967295 : Int) -> ∀ v252, v252 = shrI IntKind.u64 v250 (32 : Int) -> ∀ v253, v253 = IntKind.u64.wrap (v22 * v20) -> ∀ v254, v254 = IntKind.u64.wrap (v253 + v221) -> ∀ v255, v255 = IntKind.u64.wrap (v254 + v252) -> ∀ v256, v256 = bitI BinOp.and IntKind.u64 v255 (4294967295 : Int) -> ∀ v257, v257 = shrI IntKind.u64 v255 (32 : Int) -> ∀ v258, v258 = IntKind.u64.wrap (v22 * v24) -> ∀ v259, v259 = IntKind.u64.wrap (v258 + v226) -> ∀ v260, v260 = IntKind.u64.wrap (v259 + v257) -> ∀ v261, v261 = bitI BinOp.and IntKind.u64 v260 (4294967295 : Int) -> ∀ v262, v262 = shrI IntKind.u64 v260 (32 : Int) -> ∀ v263, v263 = IntKind.u64.wrap (v22 * v28) -> ∀ v264, v264 = IntKind.u64.wrap (v263 + v231) -> ∀ v265, v265 = IntKind.u64.wrap (v264 + v262) -> ∀ v266, v266 = bitI BinOp.and IntKind.u64 v265 (4294967295 : Int) -> ∀ v267, v267 = shrI IntKind.u64 v265 (32 : Int) -> ∀ v268, v268 = IntKind.u64.wrap (v22 * v32) -> ∀ v269, v269 = IntKind.u64.wrap (v268 + v232) -> ∀ v270, v270 = IntKind.u64.wrap (v269 + v267) -> ∀ v271, v271 = bitI BinOp.and IntKind.u64 v270 (4294967295 : Int) -> ∀ v272, v272 = shrI IntKind.u64 v270 (32 : Int) -> ∀ v273, v273 = IntKind.u64.wrap (v26 * v4) -> ∀ v274, v274 = IntKind.u64.wrap (v273 + v241) -> ∀ v275, v275 = IntKind.u64.wrap (v274 + (0 : Int)) -> ∀ v276, v276 = bitI BinOp.and IntKind.u64 v275 (4294967295 : Int) -> ∀ v277, v277 = shrI IntKind.u64 v275 (32 : Int) -> ∀ v278, v278 = IntKind.u64.wrap (v26 * v8) -> ∀ v279, v279 = IntKind.u64.wrap (v278 + v246) -> ∀ v280, v280 = IntKind.u64.wrap (v279 + v277) -> ∀ v281, v281 = bitI BinOp.and IntKind.u64 v280 (4294967295 : Int) -> ∀ v282, v282 = shrI IntKind.u64 v280 (32 : Int) -> ∀ v283, v283 = IntKind.u64.wrap (v26 * v12) -> ∀ v284, v284 = IntKind.u64.wrap (v283 + v251) -> ∀ v285, v285 = IntKind.u64.wrap (v284 + v282) -> ∀ v286, v286 = bitI BinOp.and IntKind.u64 v285 (4294967295 : Int) -> ∀ v287, v287 = shrI IntKind.u64 v285 (32 : Int) -> ∀ v288, v288 = IntKind.u64.wrap (v26 * v16) -> ∀ v289, v289 = IntKind.u64.wrap (v288 + v256) -> ∀ v290, v290 = IntKind.u64.wrap (v289 + v287) -> ∀ v291, v291 = bitI BinOp.and IntKind.u64 v290 (4294967295 : Int) -> ∀ v292, v292 = shrI IntKind.u64 v290 (32 : Int) -> ∀ v293, v293 = IntKind.u64.wrap (v26 * v20) -> ∀ v294, v294 = IntKind.u64.wrap (v293 + v261) -> ∀ v295, v295 = IntKind.u64.wrap (v294 + v292) -> ∀ v296, v296 = bitI BinOp.and IntKind.u64 v295 (4294967295 : Int) -> ∀ v297, v297 = shrI IntKind.u64 v295 (32 : Int) -> ∀ v298, v298 = IntKind.u64.wrap (v26 * v24) -> ∀ v299, v299 = IntKind.u64.wrap (v298 + v266) -> ∀ v300, v300 = IntKind.u64.wrap (v299 + v297) -> ∀ v301, v301 = bitI BinOp.and IntKind.u64 v300 (4294967295 : Int) -> ∀ v302, v302 = shrI IntKind.u64 v300 (32 : Int) -> ∀ v303, v303 = IntKind.u64.wrap (v26 * v28) -> ∀ v304, v304 = IntKind.u64.wrap (v303 + v271) -> ∀ v305, v305 = IntKind.u64.wrap (v304 + v302) -> ∀ v306, v306 = bitI BinOp.and IntKind.u64 v305 (4294967295 : Int) -> ∀ v307, v307 = shrI IntKind.u64 v305 (32 : Int) -> ∀ v308, v308 = IntKind.u64.wrap (v26 * v32) -> ∀ v309, v309 = IntKind.u64.wrap (v308 + v272) -> ∀ v310, v310 = IntKind.u64.wrap (v309 + v307) -> ∀ v311, v311 = bitI BinOp.and IntKind.u64 v310 (4294967295 : Int) -> ∀ v312, v312 = shrI IntKind.u64 v310 (32 : Int) -> ∀ v313, v313 = IntKind.u64.wrap (v30 * v4) -> ∀ v314, v314 = IntKind.u64.wrap (v313 + v281) -> ∀ v315, v315 = IntKind.u64.wrap (v314 + (0 : Int)) -> ∀ v316, v316 = bitI BinOp.and IntKind.u64 v315 (4294967295 : Int) -> ∀ v317, v317 = shrI IntKind.u64 v315 (32 : Int) -> ∀ v318, v318 = IntKind.u64.wrap (v30 * v8) -> ∀ v319, v319 = IntKind.u64.wrap (v318 + v286) -> ∀ v320, v320 = IntKind.u64.wrap (v319 + v317) -> ∀ v321, v321 = bitI BinOp.and IntKind.u64 v320 (4294967295 : Int) -> ∀ v322, v322 = shrI IntKind.u64 v320 (32 : Int) -> ∀ v323, v323 = IntKind.u64.wrap (v30 * v12) -> ∀ v324, v324 = IntKind.u64.wrap (v323 + v291) -> ∀ v325, v325 = IntKind.u64.wrap (v324 + v322) -> ∀ v326, v326 = bitI BinOp.and IntKind.u64 v325 (4294967295 : Int) -> ∀ v327, v327 = shrI IntKind.u64 v325 (32 : Int) -> ∀ v328, v328 = IntKind.u64.wrap (v30 * v16) -> ∀ v329, v329 = IntKind.u64.wrap (v328 + v296) -> ∀ v330, v330 = IntKind.u64.wrap (v329 + v327) -> ∀ v331, v331 = bitI BinOp.and IntKind.u64 v330 (4294967295 : Int) -> ∀ v332, v332 = shrI IntKind.u64 v330 (32 : Int) -> ∀ v333, v333 = IntKind.u64.wrap (v30 * v20) -> ∀ v334, v334 = IntKind.u64.wrap (v333 + v301) -> ∀ v335, v335 = IntKind.u64.wrap (v334 + v332) -> ∀ v336, v336 = bitI BinOp.and IntKind.u64 v335 (4294967295 : Int) -> ∀ v337, v337 = shrI IntKind.u64 v335 (32 : Int) -> ∀ v338, v338 = IntKind.u64.wrap (v30 * v24) -> ∀ v339, v339 = IntKind.u64.wrap (v338 + v306) -> ∀ v340, v340 = IntKind.u64.wrap (v339 + v337) -> ∀ v341, v341 = bitI BinOp.and IntKind.u64 v340 (4294967295 : Int) -> ∀ v342, v342 = shrI IntKind.u64 v340 (32 : Int) -> ∀ v343, v343 = IntKind.u64.wrap (v30 * v28) -> ∀ v344, v344 = IntKind.u64.wrap (v343 + v311) -> ∀ v345, v345 = IntKind.u64.wrap (v344 + v342) -> ∀ v346, v346 = bitI BinOp.and IntKind.u64 v345 (4294967295 : Int) -> ∀ v347, v347 = shrI IntKind.u64 v345 (32 : Int) -> ∀ v348, v348 = IntKind.u64.wrap (v30 * v32) -> ∀ v349, v349 = IntKind.u64.wrap (v348 + v312) -> ∀ v350, v350 = IntKind.u64.wrap (v349 + v347) -> ∀ v351, v351 = bitI BinOp.and IntKind.u64 v350 (4294967295 : Int) -> ∀ v352, v352 = shrI IntKind.u64 v350 (32 : Int) -> ∀ v353, v353 = shlI IntKind.u64 v76 (32 : Int) -> ∀ v354, v354 = bitI BinOp.or IntKind.u64 v36 v353 -> ∀ v355, v355 = shlI IntKind.u64 v326 (32 : Int) -> ∀ v356, v356 = bitI BinOp.or IntKind.u64 v321 v355 -> ∀ v357, v357 = shlI IntKind.u64 v156 (32 : Int) -> ∀ v358, v358 = bitI BinOp.or IntKind.u64 v116 v357 -> ∀ v359, v359 = shlI IntKind.u64 v336 (32 : Int) -> ∀ v360, v360 = bitI BinOp.or IntKind.u64 v331 v359 -> ∀ v361, v361 = shlI IntKind.u64 v236 (32 : Int) -> ∀ v362, v362 = bitI BinOp.or IntKind.u64 v196 v361 -> ∀ v363, v363 = shlI IntKind.u64 v346 (32 : Int) -> ∀ v364, v364 = bitI BinOp.or IntKind.u64 v341 v363 -> ∀ v365, v365 = shlI IntKind.u64 v316 (32 : Int) -> ∀ v366, v366 = bitI BinOp.or IntKind.u64 v276 v365 -> ∀ v367, v367 = shlI IntKind.u64 v352 (32 : Int) -> ∀ v368, v368 = bitI BinOp.or IntKind.u64 v351 v367 -> ((IntKind.u64 = IntKind.u64 /\ v354 = limb (val4 a0 a1 a2 a3 * val4 b0 b1 b2 b3) 0) /\ (IntKind.u64 = IntKind.u64 /\ v358 = limb (val4 a0 a1 a2 a3 * val4 b0 b1 b2 b3) 1) /\ (IntKind.u64 = IntKind.u64 /\ v362 = limb (val4 a0 a1 a2 a3 * val4 b0 b1 b2 b3) 2) /\ (IntKind.u64 = IntKind.u64 /\ v366 = limb (val4 a0 a1 a2 a3 * val4 b0 b1 b2 b3) 3) /\ True) /\ ((IntKind.u64 = IntKind.u64 /\ v356 = limb (val4 a0 a1 a2 a3 * val4 b0 b1 b2 b3 / (115792089237316195423570985008687907853269984665640564039457584007913129639936 : Int)) 0) /\ (IntKind.u64 = IntKind.u64 /\ v360 = limb (val4 a0 a1 a2 a3 * val4 b0 b1 b2 b3 / (115792089237316195423570985008687907853269984665640564039457584007913129639936 : Int)) 1) /\ (IntKind.u64 = IntKind.u64 /\ v364 = limb (val4 a0 a1 a2 a3 * val4 b0 b1 b2 b3 / (115792089237316195423570985008687907853269984665640564039457584007913129639936 : Int)) 2) /\ (IntKind.u64 = IntKind.u64 /\ v368 = limb (val4 a0 a1 a2 a3 * val4 b0 b1 b2 b3 / (115792089237316195423570985008687907853269984665640564039457584007913129639936 : Int)) 3) /\ True) /\ True
theorem tieRMul (w0 : World) (a0 : Int) (a1 : Int) (a2 : Int) (a3 : Int) (b0 : Int) (b1 : Int) (b2 : Int) (b3 : Int) : VCRMul a0 a1 a2 a3 b0 b1 b2 b3 = ((recN (GC Tryd.prog nm1Spec w0) 90).call 17 [.agg [.int .u64 (.sym a0), .int .u64 (.sym a1), .int .u64 (.sym a2), .int .u64 (.sym a3)], .agg [.int .u64 (.sym b0), .int .u64 (.sym b1), .int .u64 (.sym b2), .int .u64 (.sym b3)]] [] (fun r__ _ => eqV r__ (.tup [.agg [.int .u64 (.sym (limb ((val4 a0 a1 a2 a3) * (val4 b0 b1 b2 b3)) 0)), .int .u64 (.sym (limb ((val4 a0 a1 a2 a3) * (val4 b0 b1 b2 b3)) 1)), .int .u64 (.sym (limb ((val4 a0 a1 a2 a3) * (val4 b0 b1 b2 b3)) 2)), .int .u64 (.sym (limb ((val4 a0 a1 a2 a3) * (val4 b0 b1 b2 b3)) 3))], .agg [.int .u64 (.sym (limb ((val4 a0 a1 a2 a3) * (val4 b0 b1 b2 b3) / 115792089237316195423570985008687907853269984665640564039457584007913129639936) 0)), .int .u64 (.sym (limb ((val4 a0 a1 a2 a3) * (val4 b0 b1 b2 b3) / 115792089237316195423570985008687907853269984665640564039457584007913129639936) 1)), .int .u64 (.sym (limb ((val4 a0 a1 a2 a3) * (val4 b0 b1 b2 b3) / 115792089237316195423570985008687907853269984665640564039457584007913129639936) 2)), .int .u64 (.sym (limb ((val4 a0 a1 a2 a3) * (val4 b0 b1 b2 b3) / 115792089237316195423570985008687907853269984665640564039457584007913129639936) 3))]]))) := by kernel_rfl
set_option maxHeartbeats 20000000 in
theorem pureRMul (a0 a1 a2 a3 b0 b1 b2 b3 : Int) (h : U64 a0 ∧ U64 a1 ∧ U64 a2 ∧ U64 a3 ∧ U64 b0 ∧ U64 b1 ∧ U64 b2 ∧ U64 b3) : VCRMul a0 a1 a2 a3 b0 b1 b2 b3 := by
  obtain ⟨ha0, ha1, ha2, ha3, hb0, hb1, hb2, hb3⟩ := h
  have n0 : (0 : Int) ≤ 0 ∧ (0 : Int) ≤ 4294967295 := by omega
  unfold VCRMul
  refine lowM ha0 (fun x0 ex0 => ?_)
  refine lowM hb0 (fun y0 ey0 => ?_)
  refine highM ha0 (fun x1 ex1 => ?_)
  refine highM hb0 (fun y1 ey1 => ?_)
  refine lowM ha1 (fun x2 ex2 => ?_)
  refine lowM hb1 (fun y2 ey2 => ?_)
  refine highM ha1 (fun x3 ex3 => ?_)
  refine highM hb1 (fun y3 ey3 => ?_)
  refine lowM ha2 (fun x4 ex4 => ?_)
  refine lowM hb2 (fun y4 ey4 => ?_)
  refine highM ha2 (fun x5 ex5 => ?_)
  refine highM hb2 (fun y5 ey5 => ?_)
  refine lowM ha3 (fun x6 ex6 => ?_)
  refine lowM hb3 (fun y6 ey6 => ?_)
  refine highM ha3 (fun x7 ex7 => ?_)
  refine highM hb3 (fun y7 ey7 => ?_)
  have bx0 : 0 ≤ x0 ∧ x0 ≤ 4294967295 := by unfold U64 at ha0; omega
  have bx1 : 0 ≤ x1 ∧ x1 ≤ 4294967295 := by unfold U64 at ha0; omega
  have bx2 : 0 ≤ x2 ∧ x2 ≤ 4294967295 := by unfold U64 at ha1; omega
  have bx3 : 0 ≤ x3 ∧ x3 ≤ 4294967295 := by unfold U64 at ha1; omega
  have bx4 : 0 ≤ x4 ∧ x4 ≤ 4294967295 := by unfold U64 at ha2; omega
  have bx5 : 0 ≤ x5 ∧ x5 ≤ 4294967295 := by unfold U64 at ha2; omega
  have bx6 : 0 ≤ x6 ∧ x6 ≤ 4294967295 := by unfold U64 at ha3; omega
  have bx7 : 0 ≤ x7 ∧ x7 ≤ 4294967295 := by unfold U64 at ha3; omega
  have by0 : 0 ≤ y0 ∧ y0 ≤ 4294967295 := by unfold U64 at hb0; omega
  have by1 : 0 ≤ y1 ∧ y1 ≤ 4294967295 := by unfold U64 at hb0; omega
  have by2 : 0 ≤ y2 ∧ y2 ≤ 4294967295 := by unfold U64 at hb1; omega
  have by3 : 0 ≤ y3 ∧ y3 ≤ 4294967295 := by unfold U64 at hb1; omega
  have by4 : 0 ≤ y4 ∧ y4 ≤ 4294967295 := by unfold U64 at hb2; omega
  have by5 : 0 ≤ y5 ∧ y5 ≤ 4294967295 := by unfold U64 at hb2; omega
  have by6 : 0 ≤ y6 ∧ y6 ≤ 4294967295 := by unfold U64 at hb3; omega
  have by7 : 0 ≤ y7 ∧ y7 ≤ 4294967295 := by unfold U64 at hb3; omega
  have sx0 : a0 = x0 + x1 * 4294967296 := by omega
  have sx1 : a1 = x2 + x3 * 4294967296 := by omega
  have sx2 : a2 = x4 + x5 * 4294967296 := by omega
  have sx3 : a3 = x6 + x7 * 4294967296 := by omega
  have sy0 : b0 = y0 + y1 * 4294967296 := by omega
  have sy1 : b1 = y2 + y3 * 4294967296 := by omega
  have sy2 : b2 = y4 + y5 * 4294967296 := by omega
  have sy3 : b3 = y6 + y7 * 4294967296 := by omega
  clear ex0 ex1 ex2 ex3 ex4 ex5 ex6 ex7 ey0 ey1 ey2 ey3 ey4 ey5 ey6 ey7
  refine stepM bx0 by0 n0 n0 (fun z0_0 c0_0 e0_0 r0_0 q0_0 => ?_)
  refine stepM bx0 by1 n0 q0_0 (fun z0_1 c0_1 e0_1 r0_1 q0_1 => ?_)
  refine stepM bx0 by2 n0 q0_1 (fun z0_2 c0_2 e0_2 r0_2 q0_2 => ?_)
  refine stepM bx0 by3 n0 q0_2 (fun z0_3 c0_3 e0_3 r0_3 q0_3 => ?_)
  refine stepM bx0 by4 n0 q0_3 (fun z0_4 c0_4 e0_4 r0_4 q0_4 => ?_)
  refine stepM bx0 by5 n0 q0_4 (fun z0_5 c0_5 e0_5 r0_5 q0_5 => ?_)
  refine stepM bx0 by6 n0 q0_5 (fun z0_6 c0_6 e0_6 r0_6 q0_6 => ?_)
  refine stepM bx0 by7 n0 q0_6 (fun z0_7 c0_7 e0_7 r0_7 q0_7 => ?_)
  have R0 : z0_0 + z0_1 * 4294967296 + z0_2 * 18446744073709551616 + z0_3 * 79228162514264337593543950336 + z0_4 * 340282366920938463463374607431768211456 + z0_5 * 1461501637330902918203684832716283019655932542976 + z0_6 * 6277101735386680763835789423207666416102355444464034512896 + z0_7 * 26959946667150639794667015087019630673637144422540572481103610249216 + c0_7 * 115792089237316195423570985008687907853269984665640564039457584007913129639936 = x0 * (y0 + y1 * 4294967296 + y2 * 18446744073709551616 + y3 * 79228162514264337593543950336 + y4 * 340282366920938463463374607431768211456 + y5 * 1461501637330902918203684832716283019655932542976 + y6 * 6277101735386680763835789423207666416102355444464034512896 + y7 * 26959946667150639794667015087019630673637144422540572481103610249216) + (0 + 0 * 4294967296 + 0 * 18446744073709551616 + 0 * 79228162514264337593543950336 + 0 * 340282366920938463463374607431768211456 + 0 * 1461501637330902918203684832716283019655932542976 + 0 * 6277101735386680763835789423207666416102355444464034512896 + 0 * 26959946667150639794667015087019630673637144422540572481103610249216) := by
    have t : x0 * (y0 + y1 * 4294967296 + y2 * 18446744073709551616 + y3 * 79228162514264337593543950336 + y4 * 340282366920938463463374607431768211456 + y5 * 1461501637330902918203684832716283019655932542976 + y6 * 6277101735386680763835789423207666416102355444464034512896 + y7 * 26959946667150639794667015087019630673637144422540572481103610249216) = x0 * y0 + x0 * y1 * 4294967296 + x0 * y2 * 18446744073709551616 + x0 * y3 * 79228162514264337593543950336 + x0 * y4 * 340282366920938463463374607431768211456 + x0 * y5 * 1461501637330902918203684832716283019655932542976 + x0 * y6 * 6277101735386680763835789423207666416102355444464034512896 + x0 * y7 * 26959946667150639794667015087019630673637144422540572481103610249216 := by grind
    rw [t]
    generalize x0 * y0 = p0 at *
    generalize x0 * y1 = p1 at *
    generalize x0 * y2 = p2 at *
    generalize x0 * y3 = p3 at *
    generalize x0 * y4 = p4 at *
    generalize x0 * y5 = p5 at *
    generalize x0 * y6 = p6 at *
    generalize x0 * y7 = p7 at *
    clear t
    omega
  clear e0_0 e0_1 e0_2 e0_3 e0_4 e0_5 e0_6 e0_7
  refine stepM bx1 by0 r0_1 n0 (fun z1_0 c1_0 e1_0 r1_0 q1_0 => ?_)
  refine stepM bx1 by1 r0_2 q1_0 (fun z1_1 c1_1 e1_1 r1_1 q1_1 => ?_)
  refine stepM bx1 by2 r0_3 q1_1 (fun z1_2 c1_2 e1_2 r1_2 q1_2 => ?_)
  refine stepM bx1 by3 r0_4 q1_2 (fun z1_3 c1_3 e1_3 r1_3 q1_3 => ?_)
  refine stepM bx1 by4 r0_5 q1_3 (fun z1_4 c1_4 e1_4 r1_4 q1_4 => ?_)
  refine stepM bx1 by5 r0_6 q1_4 (fun z1_5 c1_5 e1_5 r1_5 q1_5 => ?_)
  refine stepM bx1 by6 r0_7 q1_5 (fun z1_6 c1_6 e1_6 r1_6 q1_6 => ?_)
  refine stepM bx1 by7 q0_7 q1_6 (fun z1_7 c1_7 e1_7 r1_7 q1_7 => ?_)
  have R1 : z1_0 + z1_1 * 4294967296 + z1_2 * 18446744073709551616 + z1_3 * 79228162514264337593543950336 + z1_4 * 340282366920938463463374607431768211456 + z1_5 * 1461501637330902918203684832716283019655932542976 + z1_6 * 6277101735386680763835789423207666416102355444464034512896 + z1_7 * 26959946667150639794667015087019630673637144422540572481103610249216 + c1_7 * 115792089237316195423570985008687907853269984665640564039457584007913129639936 = x1 * (y0 + y1 * 4294967296 + y2 * 18446744073709551616 + y3 * 79228162514264337593543950336 + y4 * 340282366920938463463374607431768211456 + y5 * 1461501637330902918203684832716283019655932542976 + y6 * 6277101735386680763835789423207666416102355444464034512896 + y7 * 26959946667150639794667015087019630673637144422540572481103610249216) + (z0_1 + z0_2 * 4294967296 + z0_3 * 18446744073709551616 + z0_4 * 79228162514264337593543950336 + z0_5 * 340282366920938463463374607431768211456 + z0_6 * 1461501637330902918203684832716283019655932542976 + z0_7 * 6277101735386680763835789423207666416102355444464034512896 + c0_7 * 26959946667150639794667015087019630673637144422540572481103610249216) := by
    have t : x1 * (y0 + y1 * 4294967296 + y2 * 18446744073709551616 + y3 * 79228162514264337593543950336 + y4 * 340282366920938463463374607431768211456 + y5 * 1461501637330902918203684832716283019655932542976 + y6 * 6277101735386680763835789423207666416102355444464034512896 + y7 * 26959946667150639794667015087019630673637144422540572481103610249216) = x1 * y0 + x1 * y1 * 4294967296 + x1 * y2 * 18446744073709551616 + x1 * y3 * 79228162514264337593543950336 + x1 * y4 * 340282366920938463463374607431768211456 + x1 * y5 * 1461501637330902918203684832716283019655932542976 + x1 * y6 * 6277101735386680763835789423207666416102355444464034512896 + x1 * y7 * 26959946667150639794667015087019630673637144422540572481103610249216 := by grind
    rw [t]
    generalize x1 * y0 = p0 at *
    generalize x1 * y1 = p1 at *
    generalize x1 * y2 = p2 at *
    generalize x1 * y3 = p3 at *
    generalize x1 * y4 = p4 at *
    generalize x1 * y5 = p5 at *
    generalize x1 * y6 = p6 at *
    generalize x1 * y7 = p7 at *
    clear t
    omega
  clear e1_0 e1_1 e1_2 e1_3 e1_4 e1_5 e1_6 e1_7
  refine stepM bx2 by0 r1_1 n0 (fun z2_0 c2_0 e2_0 r2_0 q2_0 => ?_)
  refine stepM bx2 by1 r1_2 q2_0 (fun z2_1 c2_1 e2_1 r2_1 q2_1 => ?_)
  refine stepM bx2 by2 r1_3 q2_1 (fun z2_2 c2_2 e2_2 r2_2 q2_2 => ?_)
  refine stepM bx2 by3 r1_4 q2_2 (fun z2_3 c2_3 e2_3 r2_3 q2_3 => ?_)
  refine stepM bx2 by4 r1_5 q2_3 (fun z2_4 c2_4 e2_4 r2_4 q2_4 => ?_)
  refine stepM bx2 by5 r1_6 q2_4 (fun z2_5 c2_5 e2_5 r2_5 q2_5 => ?_)
  refine stepM bx2 by6 r1_7 q2_5 (fun z2_6 c2_6 e2_6 r2_6 q2_6 => ?_)
  refine stepM bx2 by7 q1_7 q2_6 (fun z2_7 c2_7 e2_7 r2_7 q2_7 => ?_)
  have R2 : z2_0 + z2_1 * 4294967296 + z2_2 * 18446744073709551616 + z2_3 * 79228162514264337593543950336 + z2_4 * 340282366920938463463374607431768211456 + z2_5 * 1461501637330902918203684832716283019655932542976 + z2_6 * 6277101735386680763835789423207666416102355444464034512896 + z2_7 * 26959946667150639794667015087019630673637144422540572481103610249216 + c2_7 * 115792089237316195423570985008687907853269984665640564039457584007913129639936 = x2 * (y0 + y1 * 4294967296 + y2 * 18446744073709551616 + y3 * 79228162514264337593543950336 + y4 * 340282366920938463463374607431768211456 + y5 * 1461501637330902918203684832716283019655932542976 + y6 * 6277101735386680763835789423207666416102355444464034512896 + y7 * 26959946667150639794667015087019630673637144422540572481103610249216) + (z1_1 + z1_2 * 4294967296 + z1_3 * 18446744073709551616 + z1_4 * 79228162514264337593543950336 + z1_5 * 340282366920938463463374607431768211456 + z1_6 * 1461501637330902918203684832716283019655932542976 + z1_7 * 6277101735386680763835789423207666416102355444464034512896 + c1_7 * 26959946667150639794667015087019630673637144422540572481103610249216) := by
    have t : x2 * (y0 + y1 * 4294967296 + y2 * 18446744073709551616 + y3 * 79228162514264337593543950336 + y4 * 340282366920938463463374607431768211456 + y5 * 1461501637330902918203684832716283019655932542976 + y6 * 6277101735386680763835789423207666416102355444464034512896 + y7 * 26959946667150639794667015087019630673637144422540572481103610249216) = x2 * y0 + x2 * y1 * 4294967296 + x2 * y2 * 18446744073709551616 + x2 * y3 * 79228162514264337593543950336 + x2 * y4 * 340282366920938463463374607431768211456 + x2 * y5 * 1461501637330902918203684832716283019655932542976 + x2 * y6 * 6277101735386680763835789423207666416102355444464034512896 + x2 * y7 * 26959946667150639794667015087019630673637144422540572481103610249216 := by grind
    rw [t]
    generalize x2 * y0 = p0 at *
    generalize x2 * y1 = p1 at *
    generalize x2 * y2 = p2 at *
    generalize x2 * y3 = p3 at *
    generalize x2 * y4 = p4 at *
    generalize x2 * y5 = p5 at *
    generalize x2 * y6 = p6 at *
    generalize x2 * y7 = p7 at *
    clear t
    omega
  clear e2_0 e2_1 e2_2 e2_3 e2_4 e2_5 e2_6 e2_7
  refine stepM bx3 by0 r2_1 n0 (fun z3_0 c3_0 e3_0 r3_0 q3_0 => ?_)
  refine stepM bx3 by1 r2_2 q3_0 (fun z3_1 c3_1 e3_1 r3_1 q3_1 => ?_)
  refine stepM bx3 by2 r2_3 q3_1 (fun z3_2 c3_2 e3_2 r3_2 q3_2 => ?_)
  refine stepM bx3 by3 r2_4 q3_2 (fun z3_3 c3_3 e3_3 r3_3 q3_3 => ?_)
  refine stepM bx3 by4 r2_5 q3_3 (fun z3_4 c3_4 e3_4 r3_4 q3_4 => ?_)
  refine stepM bx3 by5 r2_6 q3_4 (fun z3_5 c3_5 e3_5 r3_5 q3_5 => ?_)
  refine stepM bx3 by6 r2_7 q3_5 (fun z3_6 c3_6 e3_6 r3_6 q3_6 => ?_)
  refine stepM bx3 by7 q2_7 q3_6 (fun z3_7 c3_7 e3_7 r3_7 q3_7 => ?_)
  have R3 : z3_0 + z3_1 * 4294967296 + z3_2 * 18446744073709551616 + z3_3 * 79228162514264337593543950336 + z3_4 * 340282366920938463463374607431768211456 + z3_5 * 1461501637330902918203684832716283019655932542976 + z3_6 * 6277101735386680763835789423207666416102355444464034512896 + z3_7 * 26959946667150639794667015087019630673637144422540572481103610249216 + c3_7 * 115792089237316195423570985008687907853269984665640564039457584007913129639936 = x3 * (y0 + y1 * 4294967296 + y2 * 18446744073709551616 + y3 * 79228162514264337593543950336 + y4 * 340282366920938463463374607431768211456 + y5 * 1461501637330902918203684832716283019655932542976 + y6 * 6277101735386680763835789423207666416102355444464034512896 + y7 * 26959946667150639794667015087019630673637144422540572481103610249216) + (z2_1 + z2_2 * 4294967296 + z2_3 * 18446744073709551616 + z2_4 * 79228162514264337593543950336 + z2_5 * 340282366920938463463374607431768211456 + z2_6 * 1461501637330902918203684832716283019655932542976 + z2_7 * 6277101735386680763835789423207666416102355444464034512896 + c2_7 * 26959946667150639794667015087019630673637144422540572481103610249216) := by
    have t : x3 * (y0 + y1 * 4294967296 + y2 * 18446744073709551616 + y3 * 79228162514264337593543950336 + y4 * 340282366920938463463374607431768211456 + y5 * 1461501637330902918203684832716283019655932542976 + y6 * 6277101735386680763835789423207666416102355444464034512896 + y7 * 26959946667150639794667015087019630673637144422540572481103610249216) = x3 * y0 + x3 * y1 * 4294967296 + x3 * y2 * 18446744073709551616 + x3 * y3 * 79228162514264337593543950336 + x3 * y4 * 340282366920938463463374607431768211456 + x3 * y5 * 1461501637330902918203684832716283019655932542976 + x3 * y6 * 6277101735386680763835789423207666416102355444464034512896 + x3 * y7 * 26959946667150639794667015087019630673637144422540572481103610249216 := by grind
    rw [t]
    generalize x3 * y0 = p0 at *
    generalize x3 * y1 = p1 at *
    generalize x3 * y2 = p2 at *
    generalize x3 * y3 = p3 at *
    generalize x3 * y4 = p4 at *
    generalize x3 * y5 = p5 at *
    generalize x3 * y6 = p6 at *
    generalize x3 * y7 = p7 at *
    clear t
    omega
  clear e3_0 e3_1 e3_2 e3_3 e3_4 e3_5 e3_6 e3_7
  refine stepM bx4 by0 r3_1 n0 (fun z4_0 c4_0 e4_0 r4_0 q4_0 => ?_)
  refine stepM bx4 by1 r3_2 q4_0 (fun z4_1 c4_1 e4_1 r4_1 q4_1 => ?_)
  refine stepM bx4 by2 r3_3 q4_1 (fun z4_2 c4_2 e4_2 r4_2 q4_2 => ?_)
  refine stepM bx4 by3 r3_4 q4_2 (fun z4_3 c4_3 e4_3 r4_3 q4_3 => ?_)
  refine stepM bx4 by4 r3_5 q4_3 (fun z4_4 c4_4 e4_4 r4_4 q4_4 => ?_)
  refine stepM bx4 by5 r3_6 q4_4 (fun z4_5 c4_5 e4_5 r4_5 q4_5 => ?_)
  refine stepM bx4 by6 r3_7 q4_5 (fun z4_6 c4_6 e4_6 r4_6 q4_6 => ?_)
  refine stepM bx4 by7 q3_7 q4_6 (fun z4_7 c4_7 e4_7 r4_7 q4_7 => ?_)
  have R4 : z4_0 + z4_1 * 4294967296 + z4_2 * 18446744073709551616 + z4_3 * 79228162514264337593543950336 + z4_4 * 340282366920938463463374607431768211456 + z4_5 * 1461501637330902918203684832716283019655932542976 + z4_6 * 6277101735386680763835789423207666416102355444464034512896 + z4_7 * 26959946667150639794667015087019630673637144422540572481103610249216 + c4_7 * 115792089237316195423570985008687907853269984665640564039457584007913129639936 = x4 * (y0 + y1 * 4294967296 + y2 * 18446744073709551616 + y3 * 79228162514264337593543950336 + y4 * 340282366920938463463374607431768211456 + y5 * 1461501637330902918203684832716283019655932542976 + y6 * 6277101735386680763835789423207666416102355444464034512896 + y7 * 26959946667150639794667015087019630673637144422540572481103610249216) + (z3_1 + z3_2 * 4294967296 + z3_3 * 18446744073709551616 + z3_4 * 79228162514264337593543950336 + z3_5 * 340282366920938463463374607431768211456 + z3_6 * 1461501637330902918203684832716283019655932542976 + z3_7 * 6277101735386680763835789423207666416102355444464034512896 + c3_7 * 26959946667150639794667015087019630673637144422540572481103610249216) := by
    have t : x4 * (y0 + y1 * 4294967296 + y2 * 18446744073709551616 + y3 * 79228162514264337593543950336 + y4 * 340282366920938463463374607431768211456 + y5 * 1461501637330902918203684832716283019655932542976 + y6 * 6277101735386680763835789423207666416102355444464034512896 + y7 * 26959946667150639794667015087019630673637144422540572481103610249216) = x4 * y0 + x4 * y1 * 4294967296 + x4 * y2 * 18446744073709551616 + x4 * y3 * 79228162514264337593543950336 + x4 * y4 * 340282366920938463463374607431768211456 + x4 * y5 * 1461501637330902918203684832716283019655932542976 + x4 * y6 * 6277101735386680763835789423207666416102355444464034512896 + x4 * y7 * 26959946667150639794667015087019630673637144422540572481103610249216 := by grind
    rw [t]
    generalize x4 * y0 = p0 at *
    generalize x4 * y1 = p1 at *
    generalize x4 * y2 = p2 at *
    generalize x4 * y3 = p3 at *
    generalize x4 * y4 = p4 at *
    generalize x4 * y5 = p5 at *
    generalize x4 * y6 = p6 at *
    generalize x4 * y7 = p7 at *
    clear t
    omega
  clear e4_0 e4_1 e4_2 e4_3 e4_4 e4_5 e4_6 e4_7
  refine stepM bx5 by0 r4_1 n0 (fun z5_0 c5_0 e5_0 r5_0 q5_0 => ?_)
  refine stepM bx5 by1 r4_2 q5_0 (fun z5_1 c5_1 e5_1 r5_1 q5_1 => ?_)
  refine stepM bx5 by2 r4_3 q5_1 (fun z5_2 c5_2 e5_2 r5_2 q5_2 => ?_)
  refine stepM bx5 by3 r4_4 q5_2 (fun z5_3 c5_3 e5_3 r5_3 q5_3 => ?_)
  refine stepM bx5 by4 r4_5 q5_3 (fun z5_4 c5_4 e5_4 r5_4 q5_4 => ?_)
  refine stepM bx5 by5 r4_6 q5_4 (fun z5_5 c5_5 e5_5 r5_5 q5_5 => ?_)
  refine stepM bx5 by6 r4_7 q5_5 (fun z5_6 c5_6 e5_6 r5_6 q5_6 => ?_)
  refine stepM bx5 by7 q4_7 q5_6 (fun z5_7 c5_7 e5_7 r5_7 q5_7 => ?_)
  have R5 : z5_0 + z5_1 * 4294967296 + z5_2 * 18446744073709551616 + z5_3 * 79228162514264337593543950336 + z5_4 * 340282366920938463463374607431768211456 + z5_5 * 1461501637330902918203684832716283019655932542976 + z5_6 * 6277101735386680763835789423207666416102355444464034512896 + z5_7 * 26959946667150639794667015087019630673637144422540572481103610249216 + c5_7 * 115792089237316195423570985008687907853269984665640564039457584007913129639936 = x5 * (y0 + y1 * 4294967296 + y2 * 18446744073709551616 + y3 * 79228162514264337593543950336 + y4 * 340282366920938463463374607431768211456 + y5 * 1461501637330902918203684832716283019655932542976 + y6 * 6277101735386680763835789423207666416102355444464034512896 + y7 * 26959946667150639794667015087019630673637144422540572481103610249216) + (z4_1 + z4_2 * 4294967296 + z4_3 * 18446744073709551616 + z4_4 * 79228162514264337593543950336 + z4_5 * 340282366920938463463374607431768211456 + z4_6 * 1461501637330902918203684832716283019655932542976 + z4_7 * 6277101735386680763835789423207666416102355444464034512896 + c4_7 * 26959946667150639794667015087019630673637144422540572481103610249216) := by
    have t : x5 * (y0 + y1 * 4294967296 + y2 * 18446744073709551616 + y3 * 79228162514264337593543950336 + y4 * 340282366920938463463374607431768211456 + y5 * 1461501637330902918203684832716283019655932542976 + y6 * 6277101735386680763835789423207666416102355444464034512896 + y7 * 26959946667150639794667015087019630673637144422540572481103610249216) = x5 * y0 + x5 * y1 * 4294967296 + x5 * y2 * 18446744073709551616 + x5 * y3 * 79228162514264337593543950336 + x5 * y4 * 340282366920938463463374607431768211456 + x5 * y5 * 1461501637330902918203684832716283019655932542976 + x5 * y6 * 6277101735386680763835789423207666416102355444464034512896 + x5 * y7 * 26959946667150639794667015087019630673637144422540572481103610249216 := by grind
    rw [t]
    generalize x5 * y0 = p0 at *
    generalize x5 * y1 = p1 at *
    generalize x5 * y2 = p2 at *
    generalize x5 * y3 = p3 at *
    generalize x5 * y4 = p4 at *
    generalize x5 * y5 = p5 at *
    generalize x5 * y6 = p6 at *
    generalize x5 * y7 = p7 at *
    clear t
    omega
  clear e5_0 e5_1 e5_2 e5_3 e5_4 e5_5 e5_6 e5_7
  refine stepM bx6 by0 r5_1 n0 (fun z6_0 c6_0 e6_0 r6_0 q6_0 => ?_)
  refine stepM bx6 by1 r5_2 q6_0 (fun z6_1 c6_1 e6_1 r6_1 q6_1 => ?_)
  refine stepM bx6 by2 r5_3 q6_1 (fun z6_2 c6_2 e6_2 r6_2 q6_2 => ?_)
  refine stepM bx6 by3 r5_4 q6_2 (fun z6_3 c6_3 e6_3 r6_3 q6_3 => ?_)
  refine stepM bx6 by4 r5_5 q6_3 (fun z6_4 c6_4 e6_4 r6_4 q6_4 => ?_)
  refine stepM bx6 by5 r5_6 q6_4 (fun z6_5 c6_5 e6_5 r6_5 q6_5 => ?_)
  refine stepM bx6 by6 r5_7 q6_5 (fun z6_6 c6_6 e6_6 r6_6 q6_6 => ?_)
  refine stepM bx6 by7 q5_7 q6_6 (fun z6_7 c6_7 e6_7 r6_7 q6_7 => ?_)
  have R6 : z6_0 + z6_1 * 4294967296 + z6_2 * 18446744073709551616 + z6_3 * 79228162514264337593543950336 + z6_4 * 340282366920938463463374607431768211456 + z6_5 * 1461501637330902918203684832716283019655932542976 + z6_6 * 6277101735386680763835789423207666416102355444464034512896 + z6_7 * 26959946667150639794667015087019630673637144422540572481103610249216 + c6_7 * 115792089237316195423570985008687907853269984665640564039457584007913129639936 = x6 * (y0 + y1 * 4294967296 + y2 * 18446744073709551616 + y3 * 79228162514264337593543950336 + y4 * 340282366920938463463374607431768211456 + y5 * 1461501637330902918203684832716283019655932542976 + y6 * 6277101735386680763835789423207666416102355444464034512896 + y7 * 26959946667150639794667015087019630673637144422540572481103610249216) + (z5_1 + z5_2 * 4294967296 + z5_3 * 18446744073709551616 + z5_4 * 79228162514264337593543950336 + z5_5 * 340282366920938463463374607431768211456 + z5_6 * 1461501637330902918203684832716283019655932542976 + z5_7 * 6277101735386680763835789423207666416102355444464034512896 + c5_7 * 26959946667150639794667015087019630673637144422540572481103610249216) := by
    have t : x6 * (y0 + y1 * 4294967296 + y2 * 18446744073709551616 + y3 * 79228162514264337593543950336 + y4 * 340282366920938463463374607431768211456 + y5 * 1461501637330902918203684832716283019655932542976 + y6 * 6277101735386680763835789423207666416102355444464034512896 + y7 * 26959946667150639794667015087019630673637144422540572481103610249216) = x6 * y0 + x6 * y1 * 4294967296 + x6 * y2 * 18446744073709551616 + x6 * y3 * 79228162514264337593543950336 + x6 * y4 * 340282366920938463463374607431768211456 + x6 * y5 * 1461501637330902918203684832716283019655932542976 + x6 * y6 * 6277101735386680763835789423207666416102355444464034512896 + x6 * y7 * 26959946667150639794667015087019630673637144422540572481103610249216 := by grind
    rw [t]
    generalize x6 * y0 = p0 at *
    generalize x6 * y1 = p1 at *
    generalize x6 * y2 = p2 at *
    generalize x6 * y3 = p3 at *
    generalize x6 * y4 = p4 at *
    generalize x6 * y5 = p5 at *
    generalize x6 * y6 = p6 at *
    generalize x6 * y7 = p7 at *
    clear t
    omega
  clear e6_0 e6_1 e6_2 e6_3 e6_4 e6_5 e6_6 e6_7
  refine stepM bx7 by0 r6_1 n0 (fun z7_0 c7_0 e7_0 r7_0 q7_0 => ?_)
  refine stepM bx7 by1 r6_2 q7_0 (fun z7_1 c7_1 e7_1 r7_1 q7_1 => ?_)
  refine stepM bx7 by2 r6_3 q7_1 (fun z7_2 c7_2 e7_2 r7_2 q7_2 => ?_)
  refine stepM bx7 by3 r6_4 q7_2 (fun z7_3 c7_3 e7_3 r7_3 q7_3 => ?_)
  refine stepM bx7 by4 r6_5 q7_3 (fun z7_4 c7_4 e7_4 r7_4 q7_4 => ?_)
  refine stepM bx7 by5 r6_6 q7_4 (fun z7_5 c7_5 e7_5 r7_5 q7_5 => ?_)
  refine stepM bx7 by6 r6_7 q7_5 (fun z7_6 c7_6 e7_6 r7_6 q7_6 => ?_)
  refine stepM bx7 by7 q6_7 q7_6 (fun z7_7 c7_7 e7_7 r7_7 q7_7 => ?_)
  have R7 : z7_0 + z7_1 * 4294967296 + z7_2 * 18446744073709551616 + z7_3 * 79228162514264337593543950336 + z7_4 * 340282366920938463463374607431768211456 + z7_5 * 1461501637330902918203684832716283019655932542976 + z7_6 * 6277101735386680763835789423207666416102355444464034512896 + z7_7 * 26959946667150639794667015087019630673637144422540572481103610249216 + c7_7 * 115792089237316195423570985008687907853269984665640564039457584007913129639936 = x7 * (y0 + y1 * 4294967296 + y2 * 18446744073709551616 + y3 * 79228162514264337593543950336 + y4 * 340282366920938463463374607431768211456 + y5 * 1461501637330902918203684832716283019655932542976 + y6 * 6277101735386680763835789423207666416102355444464034512896 + y7 * 26959946667150639794667015087019630673637144422540572481103610249216) + (z6_1 + z6_2 * 4294967296 + z6_3 * 18446744073709551616 + z6_4 * 79228162514264337593543950336 + z6_5 * 340282366920938463463374607431768211456 + z6_6 * 1461501637330902918203684832716283019655932542976 + z6_7 * 6277101735386680763835789423207666416102355444464034512896 + c6_7 * 26959946667150639794667015087019630673637144422540572481103610249216) := by
    have t : x7 * (y0 + y1 * 4294967296 + y2 * 18446744073709551616 + y3 * 79228162514264337593543950336 + y4 * 340282366920938463463374607431768211456 + y5 * 1461501637330902918203684832716283019655932542976 + y6 * 6277101735386680763835789423207666416102355444464034512896 + y7 * 26959946667150639794667015087019630673637144422540572481103610249216) = x7 * y0 + x7 * y1 * 4294967296 + x7 * y2 * 18446744073709551616 + x7 * y3 * 79228162514264337593543950336 + x7 * y4 * 340282366920938463463374607431768211456 + x7 * y5 * 1461501637330902918203684832716283019655932542976 + x7 * y6 * 6277101735386680763835789423207666416102355444464034512896 + x7 * y7 * 26959946667150639794667015087019630673637144422540572481103610249216 := by grind
    rw [t]
    generalize x7 * y0 = p0 at *
    generalize x7 * y1 = p1 at *
    generalize x7 * y2 = p2 at *
    generalize x7 * y3 = p3 at *
    generalize x7 * y4 = p4 at *
    generalize x7 * y5 = p5 at *
    generalize x7 * y6 = p6 at *
    generalize x7 * y7 = p7 at *
    clear t
    omega
  clear e7_0 e7_1 e7_2 e7_3 e7_4 e7_5 e7_6 e7_7
  refine orM r0_0 r1_0 (fun w0 ew0 => ?_)
  refine orM r7_1 r7_2 (fun w4 ew4 => ?_)
  refine orM r2_0 r3_0 (fun w1 ew1 => ?_)
  refine orM r7_3 r7_4 (fun w5 ew5 => ?_)
  refine orM r4_0 r5_0 (fun w2 ew2 => ?_)
  refine orM r7_5 r7_6 (fun w6 ew6 => ?_)
  refine orM r6_0 r7_0 (fun w3 ew3 => ?_)
  refine orM r7_7 q7_7 (fun w7 ew7 => ?_)
  have u0 : 0 ≤ w0 ∧ w0 ≤ 18446744073709551615 := by have := r0_0; have := r1_0; omega
  have u1 : 0 ≤ w1 ∧ w1 ≤ 18446744073709551615 := by have := r2_0; have := r3_0; omega
  have u2 : 0 ≤ w2 ∧ w2 ≤ 18446744073709551615 := by have := r4_0; have := r5_0; omega
  have u3 : 0 ≤ w3 ∧ w3 ≤ 18446744073709551615 := by have := r6_0; have := r7_0; omega
  have u4 : 0 ≤ w4 ∧ w4 ≤ 18446744073709551615 := by have := r7_1; have := r7_2; omega
  have u5 : 0 ≤ w5 ∧ w5 ≤ 18446744073709551615 := by have := r7_3; have := r7_4; omega
  have u6 : 0 ≤ w6 ∧ w6 ≤ 18446744073709551615 := by have := r7_5; have := r7_6; omega
  have u7 : 0 ≤ w7 ∧ w7 ≤ 18446744073709551615 := by have := r7_7; have := q7_7; omega
  have hA : val4 a0 a1 a2 a3 = (x0 + x1 * 4294967296 + x2 * 18446744073709551616 + x3 * 79228162514264337593543950336 + x4 * 340282366920938463463374607431768211456 + x5 * 1461501637330902918203684832716283019655932542976 + x6 * 6277101735386680763835789423207666416102355444464034512896 + x7 * 26959946667150639794667015087019630673637144422540572481103610249216) := by unfold val4; omega
  have hB : val4 b0 b1 b2 b3 = (y0 + y1 * 4294967296 + y2 * 18446744073709551616 + y3 * 79228162514264337593543950336 + y4 * 340282366920938463463374607431768211456 + y5 * 1461501637330902918203684832716283019655932542976 + y6 * 6277101735386680763835789423207666416102355444464034512896 + y7 * 26959946667150639794667015087019630673637144422540572481103610249216) := by unfold val4; omega
  have hP : (x0 + x1 * 4294967296 + x2 * 18446744073709551616 + x3 * 79228162514264337593543950336 + x4 * 340282366920938463463374607431768211456 + x5 * 1461501637330902918203684832716283019655932542976 + x6 * 6277101735386680763835789423207666416102355444464034512896 + x7 * 26959946667150639794667015087019630673637144422540572481103610249216) * (y0 + y1 * 4294967296 + y2 * 18446744073709551616 + y3 * 79228162514264337593543950336 + y4 * 340282366920938463463374607431768211456 + y5 * 1461501637330902918203684832716283019655932542976 + y6 * 6277101735386680763835789423207666416102355444464034512896 + y7 * 26959946667150639794667015087019630673637144422540572481103610249216) = x0 * (y0 + y1 * 4294967296 + y2 * 18446744073709551616 + y3 * 79228162514264337593543950336 + y4 * 340282366920938463463374607431768211456 + y5 * 1461501637330902918203684832716283019655932542976 + y6 * 6277101735386680763835789423207666416102355444464034512896 + y7 * 26959946667150639794667015087019630673637144422540572481103610249216) + x1 * (y0 + y1 * 4294967296 + y2 * 18446744073709551616 + y3 * 79228162514264337593543950336 + y4 * 340282366920938463463374607431768211456 + y5 * 1461501637330902918203684832716283019655932542976 + y6 * 6277101735386680763835789423207666416102355444464034512896 + y7 * 26959946667150639794667015087019630673637144422540572481103610249216) * 4294967296 + x2 * (y0 + y1 * 4294967296 + y2 * 18446744073709551616 + y3 * 79228162514264337593543950336 + y4 * 340282366920938463463374607431768211456 + y5 * 1461501637330902918203684832716283019655932542976 + y6 * 6277101735386680763835789423207666416102355444464034512896 + y7 * 26959946667150639794667015087019630673637144422540572481103610249216) * 18446744073709551616 + x3 * (y0 + y1 * 4294967296 + y2 * 18446744073709551616 + y3 * 79228162514264337593543950336 + y4 * 340282366920938463463374607431768211456 + y5 * 1461501637330902918203684832716283019655932542976 + y6 * 6277101735386680763835789423207666416102355444464034512896 + y7 * 26959946667150639794667015087019630673637144422540572481103610249216) * 79228162514264337593543950336 + x4 * (y0 + y1 * 4294967296 + y2 * 18446744073709551616 + y3 * 79228162514264337593543950336 + y4 * 340282366920938463463374607431768211456 + y5 * 1461501637330902918203684832716283019655932542976 + y6 * 6277101735386680763835789423207666416102355444464034512896 + y7 * 26959946667150639794667015087019630673637144422540572481103610249216) * 340282366920938463463374607431768211456 + x5 * (y0 + y1 * 4294967296 + y2 * 18446744073709551616 + y3 * 79228162514264337593543950336 + y4 * 340282366920938463463374607431768211456 + y5 * 1461501637330902918203684832716283019655932542976 + y6 * 6277101735386680763835789423207666416102355444464034512896 + y7 * 26959946667150639794667015087019630673637144422540572481103610249216) * 1461501637330902918203684832716283019655932542976 + x6 * (y0 + y1 * 4294967296 + y2 * 18446744073709551616 + y3 * 79228162514264337593543950336 + y4 * 340282366920938463463374607431768211456 + y5 * 1461501637330902918203684832716283019655932542976 + y6 * 6277101735386680763835789423207666416102355444464034512896 + y7 * 26959946667150639794667015087019630673637144422540572481103610249216) * 6277101735386680763835789423207666416102355444464034512896 + x7 * (y0 + y1 * 4294967296 + y2 * 18446744073709551616 + y3 * 79228162514264337593543950336 + y4 * 340282366920938463463374607431768211456 + y5 * 1461501637330902918203684832716283019655932542976 + y6 * 6277101735386680763835789423207666416102355444464034512896 + y7 * 26959946667150639794667015087019630673637144422540572481103610249216) * 26959946667150639794667015087019630673637144422540572481103610249216 := by grind
  have hT : val4 a0 a1 a2 a3 * val4 b0 b1 b2 b3 = val4 w0 w1 w2 w3 + val4 w4 w5 w6 w7 * 115792089237316195423570985008687907853269984665640564039457584007913129639936 := by
    rw [hA, hB, hP]
    clear hA hB hP sx0 sx1 sx2 sx3 sy0 sy1 sy2 sy3 ha0 ha1 ha2 ha3 hb0 hb1 hb2 hb3
    generalize x0 * (y0 + y1 * 4294967296 + y2 * 18446744073709551616 + y3 * 79228162514264337593543950336 + y4 * 340282366920938463463374607431768211456 + y5 * 1461501637330902918203684832716283019655932542976 + y6 * 6277101735386680763835789423207666416102355444464034512896 + y7 * 26959946667150639794667015087019630673637144422540572481103610249216) = p0 at *
    generalize x1 * (y0 + y1 * 4294967296 + y2 * 18446744073709551616 + y3 * 79228162514264337593543950336 + y4 * 340282366920938463463374607431768211456 + y5 * 1461501637330902918203684832716283019655932542976 + y6 * 6277101735386680763835789423207666416102355444464034512896 + y7 * 26959946667150639794667015087019630673637144422540572481103610249216) = p1 at *
    generalize x2 * (y0 + y1 * 4294967296 + y2 * 18446744073709551616 + y3 * 79228162514264337593543950336 + y4 * 340282366920938463463374607431768211456 + y5 * 1461501637330902918203684832716283019655932542976 + y6 * 6277101735386680763835789423207666416102355444464034512896 + y7 * 26959946667150639794667015087019630673637144422540572481103610249216) = p2 at *
    generalize x3 * (y0 + y1 * 4294967296 + y2 * 18446744073709551616 + y3 * 79228162514264337593543950336 + y4 * 340282366920938463463374607431768211456 + y5 * 1461501637330902918203684832716283019655932542976 + y6 * 6277101735386680763835789423207666416102355444464034512896 + y7 * 26959946667150639794667015087019630673637144422540572481103610249216) = p3 at *
    generalize x4 * (y0 + y1 * 4294967296 + y2 * 18446744073709551616 + y3 * 79228162514264337593543950336 + y4 * 340282366920938463463374607431768211456 + y5 * 1461501637330902918203684832716283019655932542976 + y6 * 6277101735386680763835789423207666416102355444464034512896 + y7 * 26959946667150639794667015087019630673637144422540572481103610249216) = p4 at *
    generalize x5 * (y0 + y1 * 4294967296 + y2 * 18446744073709551616 + y3 * 79228162514264337593543950336 + y4 * 340282366920938463463374607431768211456 + y5 * 1461501637330902918203684832716283019655932542976 + y6 * 6277101735386680763835789423207666416102355444464034512896 + y7 * 26959946667150639794667015087019630673637144422540572481103610249216) = p5 at *
    generalize x6 * (y0 + y1 * 4294967296 + y2 * 18446744073709551616 + y3 * 79228162514264337593543950336 + y4 * 340282366920938463463374607431768211456 + y5 * 1461501637330902918203684832716283019655932542976 + y6 * 6277101735386680763835789423207666416102355444464034512896 + y7 * 26959946667150639794667015087019630673637144422540572481103610249216) = p6 at *
    generalize x7 * (y0 + y1 * 4294967296 + y2 * 18446744073709551616 + y3 * 79228162514264337593543950336 + y4 * 340282366920938463463374607431768211456 + y5 * 1461501637330902918203684832716283019655932542976 + y6 * 6277101735386680763835789423207666416102355444464034512896 + y7 * 26959946667150639794667015087019630673637144422540572481103610249216) = p7 at *
    unfold val4
    omega
  obtain ⟨⟨l0, l1, l2, l3⟩, l4, l5, l6, l7⟩ := halves8 u0 u1 u2 u3 u4 u5 u6 u7 hT
  exact ⟨⟨⟨rfl, l0⟩, ⟨rfl, l1⟩, ⟨rfl, l2⟩, ⟨rfl, l3⟩, trivial⟩, ⟨⟨rfl, l4⟩, ⟨rfl, l5⟩, ⟨rfl, l6⟩, ⟨rfl, l7⟩, trivial⟩, trivial⟩
theorem rMul_ok : SpecOk Tryd.prog 17 rMulSpec := by
  intro args k h
  unfold rMulSpec at h
  split at h
  · rename_i a0 a1 a2 a3 b0 b1 b2 b3
    obtain ⟨hr, h⟩ := h
    exact ⟨_, h _ rfl _ rfl, PureOk.of_tie (GC Tryd.prog nm1Spec) (fun w__ => gok w__ namesOk_ mixed_ nm1_ok) (fun _ => rfl) (fun _ => rfl) (args' := [.agg [.int .u64 (.sym a0.val), .int .u64 (.sym a1.val), .int .u64 (.sym a2.val), .int .u64 (.sym a3.val)], .agg [.int .u64 (.sym b0.val), .int .u64 (.sym b1.val), .int .u64 (.sym b2.val), .int .u64 (.sym b3.val)]]) ⟨⟨⟨rfl, rfl⟩, ⟨rfl, rfl⟩, ⟨rfl, rfl⟩, ⟨rfl, rfl⟩, trivial⟩, ⟨⟨rfl, rfl⟩, ⟨rfl, rfl⟩, ⟨rfl, rfl⟩, ⟨rfl, rfl⟩, trivial⟩, trivial⟩ 90 (fun w__ => VCRMul a0.val a1.val a2.val a3.val b0.val b1.val b2.val b3.val) (fun w__ => tieRMul w__ a0.val a1.val a2.val a3.val b0.val b1.val b2.val b3.val) (fun w__ => pureRMul a0.val a1.val a2.val a3.val b0.val b1.val b2.val b3.val hr)⟩
  · exact h.elim

end Go.Proofs.YtaaobpalpcdlbaaDoor.Bits
