import Derived.Test.YtaaobpalpcdlbaaDoorSxR
import Derived.Test.YtaaobpalpcdlbaaDoorProg
import Derived.Test.YtaaobpalpcdlbaaDoorStr0
import Derived.KernelRfl
namespace Go.Proofs.YtaaobpalpcdlbaaDoor.Bits
open Go Go.Sx Go.RowKit
set_option linter.unusedVariables false
set_option maxRecDepth 100000
def fromLittleSpec : CSpec
  | [.str s], k => (True) ∧ (∀ r0 : Int, r0 = (leF s.val) → ∀ r1 : Int, r1 = (erF s.val.size 32) → k (.tup [.agg [.int .u64 (.sym (limb r0 0)), .int .u64 (.sym (limb r0 1)), .int .u64 (.sym (limb r0 2)), .int .u64 (.sym (limb r0 3))], .int .i64 (.sym r1)]))
  | _, _ => False
def VCFromLittle (s : ByteArray) : Prop :=
  ∀ (v1 : Int), v1 = ↑s.size -> ∀ v2, v2 = decide (v1 < (32 : Int)) -> (v2 = true -> ((IntKind.u64 = IntKind.u64 /\ 0 = limb (leF s) 0) /\ (IntKind.u64 = IntKind.u64 /\ 0 = limb (leF s) 1) /\ (IntKind.u64 = IntKind.u64 /\ 0 = limb (leF s) 2) /\ (IntKind.u64 = IntKind.u64 /\ 0 = limb (leF s) 3) /\ True) /\ (IntKind.i64 = IntKind.i64 /\ (11 : Int) = erF ↑s.size (32 : Int)) /\ True) /\ (v2 = false -> ∀ (v3 : Int), v3 = ↑s.size -> ∀ v4, v4 = decide (v3 > (32 : Int)) -> (v4 = true -> ((IntKind.u64 = IntKind.u64 /\ 0 = limb (leF s) 0) /\ (IntKind.u64 = IntKind.u64 /\ 0 = limb (leF s) 1) /\ (IntKind.u64 = IntKind.u64 /\ 0 = limb (leF s) 2) /\ (IntKind.u64 = IntKind.u64 /\ 0 = limb (leF s) 3) /\ True) /\ (IntKind.i64 = IntKind.i64 /\ (12 : Int) = erF ↑s.size (32 : Int)) /\ True) /\ (v4 = false -> ((0 : Int) ≤ (0 : Int) /\ (0 : Int) < ↑s.size) /\ ∀ v5, v5 = byteAt s (0 : Int) -> ∀ v6, v6 = IntKind.u64.wrap v5 -> ∀ v7, v7 = shlI IntKind.u64 v6 (0 : Int) -> ∀ v8, v8 = bitI BinOp.or IntKind.u64 (0 : Int) v7 -> ((0 : Int) ≤ (1 : Int) /\ (1 : Int) < ↑s.size) /\ ∀ v9, v9 = byteAt s (1 : Int) -> ∀ v10, v10 = IntKind.u64.wrap v9 -> ∀ v11, v11 = shlI IntKind.u64 v10 (8 : Int) -> ∀ v12, v12 = bitI BinOp.or IntKind.u64 v8 v11 -> ((0 : Int) ≤ (2 : Int) /\ (2 : Int) < ↑s.size) /\ ∀ v13, v13 = byteAt s (2 : Int) -> ∀ v14, v14 = IntKind.u64.wrap v13 -> ∀ v15, v15 = shlI IntKind.u64 v14 (16 : Int) -> ∀ v16, v16 = bitI BinOp.or IntKind.u64 v12 v15 -> ((0 : Int) ≤ (3 : Int) /\ (3 : Int) < ↑s.size) /\ ∀ v17, v17 = byteAt s (3 : Int) -> ∀ v18, v18 = IntKind.u64.wrap v17 -> ∀ v19, v19 = shlI IntKind.u64 v18 (24 : Int) -> ∀ v20, v20 = bitI BinOp.or IntKind.u64 v16 v19 -> ((0 : Int) ≤ (4 : Int) /\ (4 : Int) < ↑s.size) /\ ∀ v21, v21 = byteAt s (4 : Int) -> ∀ v22, v22 = IntKind.u64.wrap v21 -> ∀ v23, v23 = shlI IntKind.u64 v22 (32 : Int) -> ∀ v24, v24 = bitI BinOp.or IntKind.u64 v20 v23 -> ((0 : Int) ≤ (5 : Int) /\ (5 : Int) < ↑s.size) /\ ∀ v25, v25 = byteAt s (5 : Int) -> ∀ v26, v26 = IntKind.u64.wrap v25 -> ∀ v27, v27 = shlI IntKind.u64 v26 (40 : Int) -> ∀ v28, v28 = bitI BinOp.or IntKind.u64 v24 v27 -> ((0 : Int) ≤ (6 : Int) /\ (6 : Int) < ↑s.size) /\ ∀ v29, v29 = byteAt s (6 : Int) -> ∀ v30, v30 = IntKind.u64.wrap v29 -> ∀ v31, v31 = shlI IntKind.u64 v30 (48 : Int) -> ∀ v32, v32 = bitI BinOp.or IntKind.u64 v28 v31 -> ((0 : Int) ≤ (7 : Int) /\ (7 : Int) < ↑s.size) /\ ∀ v33, v33 = byteAt s (7 : Int) -> ∀ v34, v34 = IntKind.u64.wrap v33 -> ∀ v35, v35 = shlI IntKind.u64 v34 (56 : Int) -> ∀ v36, v36 = bitI BinOp.or IntKind.u64 v32 v35 -> ((0 : Int) ≤ (8 : Int) /\ (8 : Int) < ↑s.size) /\ ∀ v37, v37 = byteAt s (8 : Int) -> ∀ v38, v38 = IntKind.u64.wrap v37 -> ∀ v39, v39 = shlI IntKind.u64 v38 (0 : Int) -> ∀ v40, v40 = bitI BinOp.or IntKind.u64 (0 : Int) v39 -> ((0 : Int) ≤ (9 : Int) /\ (9 : Int) < ↑s.size) /\ ∀ v41, v41 = byteAt s (9 : Int) -> ∀ v42, v42 = IntKind.u64.wrap v41 -> ∀ v43, v43 = shlI IntKind.u64 v42 (8 : Int) -> ∀ v44, v44 = bitI BinOp.or IntKind.u64 v40 v43 -> ((0 : Int) ≤ (10 : Int) /\ (10 : Int) < ↑s.size) /\ ∀ v45, v45 = byteAt s (10 : Int) -> ∀ v46, v46 = IntKind.u64.wrap v45 -> ∀ v47, v47 = shlI IntKind.u64 v46 (16 : Int) -> ∀ v48, v48 = bitI BinOp.or IntKind.u64 v44 v47 -> ((0 : Int) ≤ (11 : Int) /\ (11 : Int) < ↑s.size) /\ ∀ v49, v49 = byteAt s (11 : Int) -> ∀ v50, v50 = IntKind.u64.wrap v49 -> ∀ v51, v51 = shlI IntKind.u64 v50 (24 : Int) -> ∀ v52, v52 = bitI BinOp.or IntKind.u64 v48 v51 -> ((0 : Int) ≤ (12 : Int) /\ (12 : Int) < ↑s.size) /\ ∀ v53, v53 = byteAt s (12 : Int) -> ∀ v54, v54 = IntKind.u64.wrap v53 -> ∀ v55, v55 = shlI IntKind.u64 v54 (32 : Int) -> ∀ v56, v56 = bitI BinOp.or IntKind.u64 v52 v55 -> ((0 : Int) ≤ (13 : Int) /\ (13 : Int) < ↑s.size) /\ ∀ v57, v57 = byteAt s (13 : Int) -> ∀ v58, v58 = IntKind.u64.wrap v57 -> ∀ v59, v59 = shlI IntKind.u64 v58 (40 : Int) -> ∀ v60, v60 = bitI BinOp.or IntKind.u64 v56 v59 -> ((0 : Int) ≤ (14 : Int) /\ (14 : Int) < ↑s.size) /\ ∀ v61, v61 = byteAt s (14 : Int) -> ∀ v62, v62 = IntKind.u64.wrap v61 -> ∀ v63, v63 = shlI IntKind.u64 v62 (48 : Int) -> ∀ v64, v64 = bitI BinOp.or IntKind.u64 v60 v63 -> ((0 : Int) ≤ (15 : Int) /\ (15 : Int) < ↑s.size) /\ ∀ v65, v65 = byteAt s (15 : Int) -> ∀ v66, v66 = IntKind.u64.wrap v65 -> ∀ v67, v67 = shlI IntKind.u64 v66 (56 : Int) -> ∀ v68, v68 = bitI BinOp.or IntKind.u64 v64 v67 -> ((0 : Int) ≤ (16 : Int) /\ (16 : Int) < ↑s.size) /\ ∀ v69, v69 = byteAt s (16 : Int) -> ∀ v70, v70 = IntKind.u64.wrap v69 -> ∀ v71, v71 = shlI IntKind.u64 v70 (0 : Int) -> ∀ v72, v72 = bitI BinOp.or IntKind.u64 (0 : Int) v71 -> ((0 : Int) ≤ (17 : Int) /\ (17 : Int) < ↑s.size) /\ ∀ v73, v73 = byteAt s (17 : Int) -> ∀ v74, v74 = IntKind.u64.wrap v73 -> ∀ v75, v75 = shlI IntKind.u64 v74 (8 : Int) -> ∀ v76, v76 = bitI BinOp.or IntKind.u64 v72 v75 -> ((0 : Int) ≤ (18 : Int) /\ (18 : Int) < ↑s.size) /\ ∀ v77, v77 = byteAt s (18 : Int) -> ∀ v78, v78 = IntKind.u64.wrap v77 -> ∀ v79, v79 = shlI IntKind.u64 v78 (16 : Int) -> ∀ v80, v80 = bitI BinOp.or IntKind.u64 v76 v79 -> ((0 : Int) ≤ (19 : Int) /\ (19 : Int) < ↑s.size) /\ ∀ v81, v81 = byteAt s (19 : Int) -> ∀ v82, v82 = IntKind.u64.wrap v81 -> ∀ v83, v83 = shlI IntKind.u64 v82 (24 : Int) -> ∀ v84, v84 = bitI BinOp.or IntKind.u64 v80 v83 -> ((0 : Int) ≤ (20 : Int) /\ (20 : Int) < ↑s.size) /\ ∀ v85, v85 = byteAt s (20 : Int) -> ∀ v86, v86 = IntKind.u64.wrap v85 -> ∀ v87, v87 = shlI IntKind.u64 v86 (32 : Int) -> ∀ v88, v88 = bitI BinOp.or IntKind.u64 v84 v87 -> ((0 : Int) ≤ (21 : Int) /\ (21 : Int) < ↑s.size) /\ ∀ v89, v89 = byteAt s (21 : Int) -> ∀ v90, v90 = IntKind.u64.wrap v89 -> ∀ v91, v91 = shlI IntKind.u64 v90 (40 : Int) -> ∀ v92, v92 = bitI BinOp.or IntKind.u64 v88 v91 -> ((0 : Int) ≤ (22 : Int) /\ (22 : Int) < ↑s.size) /\ ∀ v93, v93 = byteAt s (22 : Int) -> ∀ v94, v94 = IntKind.u64.wrap v93 -> ∀ v95, v95 = shlI IntKind.u64 v94 (48 : Int) -> ∀ v96, v96 = bitI BinOp.or IntKind.u64 v92 v95 -> ((0 : Int) ≤ (23 : Int) /\ (23 : Int) < ↑s.size) /\ ∀ v97, v97 = byteAt s (23 : Int) -> ∀ v98, v98 = IntKind.u64.wrap v97 -> ∀ v99, v99 = shlI IntKind.u64 v98 (56 : Int) -> ∀ v100, v100 = bitI BinOp.or IntKind.u64 v96 v99 -> ((0 : Int) ≤ (24 : Int) /\ (24 : Int) < ↑s.size) /\ ∀ v101, v101 = byteAt s (24 : Int) -> ∀ v102, v102 = IntKind.u64.wrap v101 -> ∀ v103, v103 = shlI IntKind.u64 v102 (0 : Int) -> ∀ v104, v104 = bitI BinOp.or IntKind.u64 (0 : Int) v103 -> ((0 : Int) ≤ (25 : Int) /\ (25 : Int) < ↑s.size) /\ ∀ v105, v105 = byteAt s (25 : Int) -> ∀ v106, v106 = IntKind.u64.wrap v105 -> ∀ v107, v107 = shlI IntKind.u64 v106 (8 : Int) -> ∀ v108, v108 = bitI BinOp.or IntKind.u64 v104 v107 -> ((0 : Int) ≤ (26 : Int) /\ (26 : Int) < ↑s.size) /\ ∀ v109, v109 = byteAt s (26 : Int) -> ∀ v110, v110 = IntKind.u64.wrap v109 -> ∀ v111, v111 = shlI IntKind.u64 v110 (16 : Int) -> ∀ v112, v112 = bitI BinOp.or IntKind.u64 v108 v111 -> ((0 : Int) ≤ (27 : Int) /\ (27 : Int) < ↑s.size) /\ ∀ v113, v113 = byteAt s (27 : Int) -> ∀ v114, v114 = IntKind.u64.wrap v113 -> ∀ v115, v115 = shlI IntKind.u64 v114 (24 : Int) -> ∀ v116, v116 = bitI BinOp.or IntKind.u64 v112 v115 -> ((0 : Int) ≤ (28 : Int) /\ (28 : Int) < ↑s.size) /\ ∀ v117, v117 = byteAt s (28 : Int) -> ∀ v118, v118 = IntKind.u64.wrap v117 -> ∀ v119, v119 = shlI IntKind.u64 v118 (32 : Int) -> ∀ v120, v120 = bitI BinOp.or IntKind.u64 v116 v119 -> ((0 : Int) ≤ (29 : Int) /\ (29 : Int) < ↑s.size) /\ ∀ v121, v121 = byteAt s (29 : Int) -> ∀ v122, v122 = IntKind.u64.wrap v121 -> ∀ v123, v123 = shlI IntKind.u64 v122 (40 : Int) -> ∀ v124, v124 = bitI BinOp.or IntKind.u64 v120 v123 -> ((0 : Int) ≤ (30 : Int) /\ (30 : Int) < ↑s.size) /\ ∀ v125, v125 = byteAt s (30 : Int) -> ∀ v126, v126 = IntKind.u64.wrap v125 -> ∀ v127, v127 = shlI IntKind.u64 v126 (48 : Int) -> ∀ v128, v128 = bitI BinOp.or IntKind.u64 v124 v127 -> ((0 : Int) ≤ (31 : Int) /\ (31 : Int) < ↑s.size) /\ ∀ v129, v129 = byteAt s (31 : Int) -> ∀ v130, v130 = IntKind.u64.wrap v129 -> ∀ v131, v131 = shlI IntKind.u64 v130 (56 : Int) -> ∀ v132, v132 = bitI BinOp.or IntKind.u64 v128 v131 -> ((IntKind.u64 = IntKind.u64 /\ v36 = limb (leF s) 0) /\ (IntKind.u64 = IntKind.u64 /\ v68 = limb (leF s) 1) /\ (IntKind.u64 = IntKind.u64 /\ v100 = limb (leF s) 2) /\ (IntKind.u64 = IntKind.u64 /\ v132 = limb (leF s) 3) /\ True) /\ (IntKind.i64 = IntKind.i64 /\ (0 : Int) = erF ↑s.size (32 : Int)) /\ True))
theorem tieFromLittle (w0 : World) (s : ByteArray) : VCFromLittle s = ((recN (GC Tryd.prog [] w0) 40).call 27 [.str (.sym s)] [] (fun r__ _ => eqV r__ (.tup [.agg [.int .u64 (.sym (limb (leF s) 0)), .int .u64 (.sym (limb (leF s) 1)), .int .u64 (.sym (limb (leF s) 2)), .int .u64 (.sym (limb (leF s) 3))], .int .i64 (.sym (erF s.size 32))]))) := by kernel_rfl
theorem pureFromLittle (s : ByteArray) (h : True) : VCFromLittle s := by
  intro v1 h1
  refine br (fun c => ?_) fun c => ?_
  · rw [h1] at c
    have e : leF s = 0 := by unfold leF; rw [if_neg (by omega)]
    rw [e]
    refine ⟨limbZ, ⟨rfl, ?_⟩, trivial⟩
    unfold erF; rw [if_pos c]
  · intro v3 h3
    refine br (fun c3 => ?_) fun c3 => ?_
    · rw [h3] at c3
      have e : leF s = 0 := by unfold leF; rw [if_neg (by omega)]
      rw [e]
      refine ⟨limbZ, ⟨rfl, ?_⟩, trivial⟩
      unfold erF; rw [if_neg (by omega), if_pos c3]
    · have hs : (s.size : Int) = 32 := by omega
      refine flStep 0 hs (by omega) (by omega) rfl rfl (by omega) (fun a0 e0 b0 => ?_)
      refine flStep 8 hs (by omega) (by omega) rfl rfl (by omega) (fun a1 e1 b1 => ?_)
      refine flStep 16 hs (by omega) (by omega) rfl rfl (by omega) (fun a2 e2 b2 => ?_)
      refine flStep 24 hs (by omega) (by omega) rfl rfl (by omega) (fun a3 e3 b3 => ?_)
      refine flStep 32 hs (by omega) (by omega) rfl rfl (by omega) (fun a4 e4 b4 => ?_)
      refine flStep 40 hs (by omega) (by omega) rfl rfl (by omega) (fun a5 e5 b5 => ?_)
      refine flStep 48 hs (by omega) (by omega) rfl rfl (by omega) (fun a6 e6 b6 => ?_)
      refine flStep 56 hs (by omega) (by omega) rfl rfl (by omega) (fun a7 e7 b7 => ?_)
      refine flStep 0 hs (by omega) (by omega) rfl rfl (by omega) (fun a8 e8 b8 => ?_)
      refine flStep 8 hs (by omega) (by omega) rfl rfl (by omega) (fun a9 e9 b9 => ?_)
      refine flStep 16 hs (by omega) (by omega) rfl rfl (by omega) (fun a10 e10 b10 => ?_)
      refine flStep 24 hs (by omega) (by omega) rfl rfl (by omega) (fun a11 e11 b11 => ?_)
      refine flStep 32 hs (by omega) (by omega) rfl rfl (by omega) (fun a12 e12 b12 => ?_)
      refine flStep 40 hs (by omega) (by omega) rfl rfl (by omega) (fun a13 e13 b13 => ?_)
      refine flStep 48 hs (by omega) (by omega) rfl rfl (by omega) (fun a14 e14 b14 => ?_)
      refine flStep 56 hs (by omega) (by omega) rfl rfl (by omega) (fun a15 e15 b15 => ?_)
      refine flStep 0 hs (by omega) (by omega) rfl rfl (by omega) (fun a16 e16 b16 => ?_)
      refine flStep 8 hs (by omega) (by omega) rfl rfl (by omega) (fun a17 e17 b17 => ?_)
      refine flStep 16 hs (by omega) (by omega) rfl rfl (by omega) (fun a18 e18 b18 => ?_)
      refine flStep 24 hs (by omega) (by omega) rfl rfl (by omega) (fun a19 e19 b19 => ?_)
      refine flStep 32 hs (by omega) (by omega) rfl rfl (by omega) (fun a20 e20 b20 => ?_)
      refine flStep 40 hs (by omega) (by omega) rfl rfl (by omega) (fun a21 e21 b21 => ?_)
      refine flStep 48 hs (by omega) (by omega) rfl rfl (by omega) (fun a22 e22 b22 => ?_)
      refine flStep 56 hs (by omega) (by omega) rfl rfl (by omega) (fun a23 e23 b23 => ?_)
      refine flStep 0 hs (by omega) (by omega) rfl rfl (by omega) (fun a24 e24 b24 => ?_)
      refine flStep 8 hs (by omega) (by omega) rfl rfl (by omega) (fun a25 e25 b25 => ?_)
      refine flStep 16 hs (by omega) (by omega) rfl rfl (by omega) (fun a26 e26 b26 => ?_)
      refine flStep 24 hs (by omega) (by omega) rfl rfl (by omega) (fun a27 e27 b27 => ?_)
      refine flStep 32 hs (by omega) (by omega) rfl rfl (by omega) (fun a28 e28 b28 => ?_)
      refine flStep 40 hs (by omega) (by omega) rfl rfl (by omega) (fun a29 e29 b29 => ?_)
      refine flStep 48 hs (by omega) (by omega) rfl rfl (by omega) (fun a30 e30 b30 => ?_)
      refine flStep 56 hs (by omega) (by omega) rfl rfl (by omega) (fun a31 e31 b31 => ?_)
      have eL : leF s = val4 (w8 s 0) (w8 s 8) (w8 s 16) (w8 s 24) := by unfold leF; rw [if_pos hs]
      have w0 : w8 s 0 = byteAt s 0 + byteAt s 1 * 256 + byteAt s 2 * 65536 + byteAt s 3 * 16777216 + byteAt s 4 * 4294967296 + byteAt s 5 * 1099511627776 + byteAt s 6 * 281474976710656 + byteAt s 7 * 72057594037927936 := rfl
      have q0 : a7 = w8 s 0 := by omega
      have w1 : w8 s 8 = byteAt s 8 + byteAt s 9 * 256 + byteAt s 10 * 65536 + byteAt s 11 * 16777216 + byteAt s 12 * 4294967296 + byteAt s 13 * 1099511627776 + byteAt s 14 * 281474976710656 + byteAt s 15 * 72057594037927936 := rfl
      have q1 : a15 = w8 s 8 := by omega
      have w2 : w8 s 16 = byteAt s 16 + byteAt s 17 * 256 + byteAt s 18 * 65536 + byteAt s 19 * 16777216 + byteAt s 20 * 4294967296 + byteAt s 21 * 1099511627776 + byteAt s 22 * 281474976710656 + byteAt s 23 * 72057594037927936 := rfl
      have q2 : a23 = w8 s 16 := by omega
      have w3 : w8 s 24 = byteAt s 24 + byteAt s 25 * 256 + byteAt s 26 * 65536 + byteAt s 27 * 16777216 + byteAt s 28 * 4294967296 + byteAt s 29 * 1099511627776 + byteAt s 30 * 281474976710656 + byteAt s 31 * 72057594037927936 := rfl
      have q3 : a31 = w8 s 24 := by omega
      obtain ⟨c0, c1, c2, c3⟩ := limbs4' (a := a7) (b := a15) (c := a23) (d := a31) (by omega) (by omega) (by omega) (by omega)
      rw [q0, q1, q2, q3, ← eL] at c0 c1 c2 c3
      rw [q0, q1, q2, q3]
      exact ⟨⟨⟨rfl, c0.symm⟩, ⟨rfl, c1.symm⟩, ⟨rfl, c2.symm⟩, ⟨rfl, c3.symm⟩, trivial⟩, ⟨rfl, by unfold erF; rw [if_neg (by omega), if_neg (by omega)]⟩, trivial⟩
theorem fromLittle_ok : SpecOk Tryd.prog 27 fromLittleSpec := by
  intro args k h
  unfold fromLittleSpec at h
  split at h
  · rename_i s
    obtain ⟨hr, h⟩ := h
    exact ⟨_, h _ rfl _ rfl, PureOk.of_tie (GC Tryd.prog []) (fun w__ => gok w__ namesOk_ mixed_ trivial) (fun _ => rfl) (fun _ => rfl) (args' := [.str (.sym s.val)]) ⟨rfl, trivial⟩ 40 (fun w__ => VCFromLittle s.val) (fun w__ => tieFromLittle w__ s.val) (fun w__ => pureFromLittle s.val hr)⟩
  · exact h.elim

def rFromLittleSpec : CSpec
  | [.str s], k => (True) ∧ (∀ r0 : Int, r0 = (leF s.val) → ∀ r1 : Int, r1 = (erF s.val.size 32) → k (.tup [.agg [.int .u64 (.sym (limb r0 0)), .int .u64 (.sym (limb r0 1)), .int .u64 (.sym (limb r0 2)), .int .u64 (.sym (limb r0 3))], .int .i64 (.sym r1)]))
  | _, _ => False
def VCRFromLittle (s : ByteArray) : Prop := VCFromLittle s
theorem tieRFromLittle (w0 : World) (s : ByteArray) : VCRFromLittle s = ((recN (GC Tryd.prog [] w0) 40).call 28 [.str (.sym s)] [] (fun r__ _ => eqV r__ (.tup [.agg [.int .u64 (.sym (limb (leF s) 0)), .int .u64 (.sym (limb (leF s) 1)), .int .u64 (.sym (limb (leF s) 2)), .int .u64 (.sym (limb (leF s) 3))], .int .i64 (.sym (erF s.size 32))]))) := by kernel_rfl
theorem pureRFromLittle (s : ByteArray) (h : True) : VCRFromLittle s := pureFromLittle s h
theorem rFromLittle_ok : SpecOk Tryd.prog 28 rFromLittleSpec := by
  intro args k h
  unfold rFromLittleSpec at h
  split at h
  · rename_i s
    obtain ⟨hr, h⟩ := h
    exact ⟨_, h _ rfl _ rfl, PureOk.of_tie (GC Tryd.prog []) (fun w__ => gok w__ namesOk_ mixed_ trivial) (fun _ => rfl) (fun _ => rfl) (args' := [.str (.sym s.val)]) ⟨rfl, trivial⟩ 40 (fun w__ => VCRFromLittle s.val) (fun w__ => tieRFromLittle w__ s.val) (fun w__ => pureRFromLittle s.val hr)⟩
  · exact h.elim

end Go.Proofs.YtaaobpalpcdlbaaDoor.Bits
