import Derived.Test.YtaaobpalpcdlbaaSxN
import Derived.Test.YtaaobpalpcdlbaaSxP
import Derived.Test.YtaaobpalpcdlbaaProg
import Derived.Test.YtaaobpalpcdlbaaNum3
import Derived.KernelRfl
namespace Go.Proofs.Ytaaobpalpcdlbaa.Bits
open Go Go.Sx Go.RowKit
set_option linter.unusedVariables false
set_option maxRecDepth 100000
def erF (n k : Int) : Int := if n < k then 11 else if n > k then 12 else 0
def w8 (s : ByteArray) (i : Int) : Int := byteAt s i + byteAt s (i + 1) * 256 + byteAt s (i + 2) * 65536 + byteAt s (i + 3) * 16777216 + byteAt s (i + 4) * 4294967296 + byteAt s (i + 5) * 1099511627776 + byteAt s (i + 6) * 281474976710656 + byteAt s (i + 7) * 72057594037927936
def leF (s : ByteArray) : Int := if (s.size : Int) = 32 then val4 (w8 s 0) (w8 s 8) (w8 s 16) (w8 s 24) else 0
def littleF (n : Int) : ByteArray := mkBytes ((List.range 32).map fun (i : Nat) => n / 256 ^ i % 256)
def strAtSpec (S : St) (t : Nat) : ByteArray := match nth S.ts t with | .str s => s.val | _ => ByteArray.empty
def revF (s : ByteArray) : ByteArray := fbytes (fun i => byteAt s ((s.size : Int) - 1 - i)) (s.size : Int)
def rturnR (s : ByteArray) (n i : Int) (f : Int → Int) : Prop := (0 ≤ i ∧ i ≤ n ∧ n = (s.size : Int)) ∧ ∀ j, 0 ≤ j → j < i → f j = byteAt s (n - 1 - j)
def rturnASpec : St → Inv := fun S =>
  { ι := Int × (Int → Int)
    T := fun p => stS (keepS (setF S 0 (flen S 0) [.int .u8 p.2]) [0, 3]) [(4, .int .i64 (.sym p.1))]
    R := fun p => rturnR (strAtSpec S 0) (flen S 0) p.1 p.2
    μ := fun p => (flen S 0 - p.1).toNat }
def revR (g : Int → Int) (n i j : Int) (f : Int → Int) : Prop := (0 ≤ i ∧ i + j = n - 1 ∧ i ≤ j + 2) ∧ ∀ x, 0 ≤ x → x < n → f x = if x < i ∨ j < x then g (n - 1 - x) else g x
def revASpec : St → Inv := fun S =>
  { ι := Int × Int × (Int → Int)
    T := fun p => stS (keepS (setF S 1 (flen S 1) [.int .u8 p.2.2]) [0]) [(2, .int .i64 (.sym p.1)), (3, .int .i64 (.sym p.2.1))]
    R := fun p => revR (fat S 1 0) (flen S 1) p.1 p.2.1 p.2.2
    μ := fun p => (p.2.1 - p.1 + 1).toNat }
def turnAnnSpec : Anns := [(127, 0, rturnASpec), (166, 0, revASpec)]
def turnCutSpec : Anns := []
def turnSpec : List (FuncId × CSpec) := []
theorem turn_ok : SpecsOk Try.prog turnSpec := trivial
theorem byteAt_in (s : ByteArray) (i : Int) : 0 ≤ byteAt s i ∧ byteAt s i ≤ 255 := by
  unfold byteAt
  have := ((s.data.toList[i.toNat]?).getD 0).toNat_lt
  omega
theorem or_comm_u64 (x y : Int) : bitI .or .u64 x y = bitI .or .u64 y x := by rw [bit_or, bit_or, Nat.or_comm]
theorem limbZ : (IntKind.u64 = IntKind.u64 ∧ (0 : Int) = limb 0 0) ∧ (IntKind.u64 = IntKind.u64 ∧ (0 : Int) = limb 0 1) ∧ (IntKind.u64 = IntKind.u64 ∧ (0 : Int) = limb 0 2) ∧ (IntKind.u64 = IntKind.u64 ∧ (0 : Int) = limb 0 3) ∧ True := by
  simp [limb]
theorem flStep {s : ByteArray} {i prev m p : Int} {G : Int → Prop} (n : Nat) (hs : (s.size : Int) = 32) (h0 : 0 ≤ i ∧ i < 32) (hprev : 0 ≤ prev ∧ prev < p) (hm : m = n) (hp : p = 2 ^ n) (hn : n ≤ 56)
    (next : ∀ v, v = prev + byteAt s i * p → (0 ≤ v ∧ v < p * 256) → G v) :
    (0 ≤ i ∧ i < (s.size : Int)) ∧ ∀ v5, v5 = byteAt s i → ∀ v6, v6 = IntKind.u64.wrap v5 → ∀ v7, v7 = shlI IntKind.u64 v6 m → ∀ v8, v8 = bitI .or .u64 prev v7 → G v8 := by
  refine ⟨by omega, fun v5 h5 v6 h6 v7 h7 v8 h8 => next v8 ?_ ?_⟩
  all_goals
    have hb := byteAt_in s i
    have hp1 : (1 : Int) ≤ p := by omega
    have hpm : p ≤ 72057594037927936 := by
      rw [hp]
      have q : (2 : Nat) ^ n ≤ 2 ^ 56 := Nat.pow_le_pow_right (by omega) hn
      have q2 : ((2 ^ n : Nat) : Int) ≤ ((2 ^ 56 : Nat) : Int) := Int.ofNat_le.2 q
      rw [show ((2 ^ 56 : Nat) : Int) = 72057594037927936 from rfl, Int.natCast_pow] at q2
      exact q2
    have e6 : v6 = byteAt s i := by rw [h6, h5, u64_id (by omega) (by omega)]
    have l0 : 0 ≤ byteAt s i * p := Int.mul_nonneg hb.1 (by omega)
    have l1 : byteAt s i * p ≤ 255 * p := Int.mul_le_mul_of_nonneg_right hb.2 (by omega)
    have e7 : v7 = byteAt s i * p := by rw [h7, shlN .u64 v6 n m p hm hp (by simp only [IntKind.bits]; omega), e6, u64_id l0 (by omega)]
    have e8 : v8 = byteAt s i * p + prev := by
      rw [h8, e7, or_comm_u64]
      rw [hp] at l0 l1 hprev hpm ⊢
      exact or_parts_u64 hb.1 hprev.1 hprev.2 (by omega) (by omega) (by omega)
    omega
def fromLittleSpec : CSpec
  | [.str s], k => (True) ∧ (∀ r0 : Int, r0 = (leF s.val) → ∀ r1 : Int, r1 = (erF s.val.size 32) → k (.tup [.agg [.int .u64 (.sym (limb r0 0)), .int .u64 (.sym (limb r0 1)), .int .u64 (.sym (limb r0 2)), .int .u64 (.sym (limb r0 3))], .int .i64 (.sym r1)]))
  | _, _ => False
def VCFromLittle (s : ByteArray) : Prop :=
  ∀ (v1 : Int), v1 = ↑s.size -> ∀ v2, v2 = decide (v1 < (32 : Int)) -> (v2 = true -> ((IntKind.u64 = IntKind.u64 /\ 0 = limb (leF s) 0) /\ (IntKind.u64 = IntKind.u64 /\ 0 = limb (leF s) 1) /\ (IntKind.u64 = IntKind.u64 /\ 0 = limb (leF s) 2) /\ (IntKind.u64 = IntKind.u64 /\ 0 = limb (leF s) 3) /\ True) /\ (IntKind.i64 = IntKind.i64 /\ (11 : Int) = erF ↑s.size (32 : Int)) /\ True) /\ (v2 = false -> ∀ (v3 : Int), v3 = ↑s.size -> ∀ v4, v4 = decide (v3 > (32 : Int)) -> (v4 = true -> ((IntKind.u64 = IntKind.u64 /\ 0 = limb (leF s) 0) /\ (IntKind.u64 = IntKind.u64 /\ 0 = limb (leF s) 1) /\ (IntKind.u64 = IntKind.u64 /\ 0 = limb (leF s) 2) /\ (IntKind.u64 = IntKind.u64 /\ 0 = limb (leF s) 3) /\ True) /\ (IntKind.i64 = IntKind.i64 /\ (12 : Int) = erF ↑s.size (32 : Int)) /\ True) /\ (v4 = false -> ((0 : Int) ≤ (0 : Int) /\ (0 : Int) < ↑s.size) /\ ∀ v5, v5 = byteAt s (0 : Int) -> ∀ v6, v6 = IntKind.u64.wrap v5 -> ∀ v7, v7 = shlI IntKind.u64 v6 (0 : Int) -> ∀ v8, v8 = bitI BinOp.or IntKind.u64 (0 : Int) v7 -> ((0 : Int) ≤ (1 : Int) /\ (1 : Int) < ↑s.size) /\ ∀ v9, v9 = byteAt s (1 : Int) -> ∀ v10, v10 = IntKind.u64.wrap v9 -> ∀ v11, v11 = shlI IntKind.u64 v10 (8 : Int) -> ∀ v12, v12 = bitI BinOp.or IntKind.u64 v8 v11 -> ((0 : Int) ≤ (2 : Int) /\ (2 : Int) < ↑s.size) /\ ∀ v13, v13 = byteAt s (2 : Int) -> ∀ v14, v14 = IntKind.u64.wrap v13 -> ∀ v15, v15 = shlI IntKind.u64 v14 (16 : Int) -> ∀ v16, v16 = bitI BinOp.or IntKind.u64 v12 v15 -> ((0 : Int) ≤ (3 : Int) /\ (3 : Int) < ↑s.size) /\ ∀ v17, v17 = byteAt s (3 : Int) -> ∀ v18, v18 = IntKind.u64.wrap v17 -> ∀ v19, v19 = shlI IntKind.u64 v18 (24 : Int) -> ∀ v20, v20 = bitI BinOp.or IntKind.u64 v16 v19 -> ((0 : Int) ≤ (4 : Int) /\ (4 : Int) < ↑s.size) /\ ∀ v21, v21 = byteAt s (4 : Int) -> ∀ v22, v22 = IntKind.u64.wrap v21 -> ∀ v23, v23 = shlI IntKind.u64 v22 (32 : Int) -> ∀ v24, v24 = bitI BinOp.or IntKind.u64 v20 v23 -> ((0 : Int) ≤ (5 : Int) /\ (5 : Int) < ↑s.size) /\ ∀ v25, v25 = byteAt s (5 : Int) -> ∀ v26, v26 = IntKind.u64.wrap v25 -> ∀ v27, v27 = shlI IntKind.u64 v26 (40 : Int) -> ∀ v28, v28 = bitI BinOp.or IntKind.u64 v24 v27 -> ((0 : Int) ≤ (6 : Int) /\ (6 : Int) < ↑s.size) /\ ∀ v29, v29 = byteAt s (6 : Int) -> ∀ v30, v30 = IntKind.u64.wrap v29 -> ∀ v31, v31 = shlI IntKind.u64 v30 (48 : Int) -> ∀ v32, v32 = bitI BinOp.or IntKind.u64 v28 v31 -> ((0 : Int) ≤ (7 : Int) /\ (7 : Int) < ↑s.size) /\ ∀ v33, v33 = byteAt s (7 : Int) -> ∀ v34, v34 = IntKind.u64.wrap v33 -> ∀ v35, v35 = shlI IntKind.u64 v34 (56 : Int) -> ∀ v36, v36 = bitI BinOp.or IntKind.u64 v32 v35 -> ((0 : Int) ≤ (8 : Int) /\ (8 : Int) < ↑s.size) /\ ∀ v37, v37 = byteAt s (8 : Int) -> ∀ v38, v38 = IntKind.u64.wrap v37 -> ∀ v39, v39 = shlI IntKind.u64 v38 (0 : Int) -> ∀ v40, v40 = bitI BinOp.or IntKind.u64 (0 : Int) v39 -> ((0 : Int) ≤ (9 : Int) /\ (9 : Int) < ↑s.size) /\ ∀ v41, v41 = byteAt s (9 : Int) -> ∀ v42, v42 = IntKind.u64.wrap v41 -> ∀ v43, v43 = shlI IntKind.u64 v42 (8 : Int) -> ∀ v44, v44 = bitI BinOp.or IntKind.u64 v40 v43 -> ((0 : Int) ≤ (10 : Int) /\ (10 : Int) < ↑s.size) /\ ∀ v45, v45 = byteAt s (10 : Int) -> ∀ v46, v46 = IntKind.u64.wrap v45 -> ∀ v47, v47 = shlI IntKind.u64 v46 (16 : Int) -> ∀ v48, v48 = bitI BinOp.or IntKind.u64 v44 v47 -> ((0 : Int) ≤ (11 : Int) /\ (11 : Int) < ↑s.size) /\ ∀ v49, v49 = byteAt s (11 : Int) -> ∀ v50, v50 = IntKind.u64.wrap v49 -> ∀ v51, v51 = shlI IntKind.u64 v50 (24 : Int) -> ∀ v52, v52 = bitI BinOp.or IntKind.u64 v48 v51 -> ((0 : Int) ≤ (12 : Int) /\ (12 : Int) < ↑s.size) /\ ∀ v53, v53 = byteAt s (12 : Int) -> ∀ v54, v54 = IntKind.u64.wrap v53 -> ∀ v55, v55 = shlI IntKind.u64 v54 (32 : Int) -> ∀ v56, v56 = bitI BinOp.or IntKind.u64 v52 v55 -> ((0 : Int) ≤ (13 : Int) /\ (13 : Int) < ↑s.size) /\ ∀ v57, v57 = byteAt s (13 : Int) -> ∀ v58, v58 = IntKind.u64.wrap v57 -> ∀ v59, v59 = shlI IntKind.u64 v58 (40 : Int) -> ∀ v60, v60 = bitI BinOp.or IntKind.u64 v56 v59 -> ((0 : Int) ≤ (14 : Int) /\ (14 : Int) < ↑s.size) /\ ∀ v61, v61 = byteAt s (14 : Int) -> ∀ v62, v62 = IntKind.u64.wrap v61 -> ∀ v63, v63 = shlI IntKind.u64 v62 (48 : Int) -> ∀ v64, v64 = bitI BinOp.or IntKind.u64 v60 v63 -> ((0 : Int) ≤ (15 : Int) /\ (15 : Int) < ↑s.size) /\ ∀ v65, v65 = byteAt s (15 : Int) -> ∀ v66, v66 = IntKind.u64.wrap v65 -> ∀ v67, v67 = shlI IntKind.u64 v66 (56 : Int) -> ∀ v68, v68 = bitI BinOp.or IntKind.u64 v64 v67 -> ((0 : Int) ≤ (16 : Int) /\ (16 : Int) < ↑s.size) /\ ∀ v69, v69 = byteAt s (16 : Int) -> ∀ v70, v70 = IntKind.u64.wrap v69 -> ∀ v71, v71 = shlI IntKind.u64 v70 (0 : Int) -> ∀ v72, v72 = bitI BinOp.or IntKind.u64 (0 : Int) v71 -> ((0 : Int) ≤ (17 : Int) /\ (17 : Int) < ↑s.size) /\ ∀ v73, v73 = byteAt s (17 : Int) -> ∀ v74, v74 = IntKind.u64.wrap v73 -> ∀ v75, v75 = shlI IntKind.u64 v74 (8 : Int) -> ∀ v76, v76 = bitI BinOp.or IntKind.u64 v72 v75 -> ((0 : Int) ≤ (18 : Int) /\ (18 : Int) < ↑s.size) /\ ∀ v77, v77 = byteAt s (18 : Int) -> ∀ v78, v78 = IntKind.u64.wrap v77 -> ∀ v79, v79 = shlI IntKind.u64 v78 (16 : Int) -> ∀ v80, v80 = bitI BinOp.or IntKind.u64 v76 v79 -> ((0 : Int) ≤ (19 : Int) /\ (19 : Int) < ↑s.size) /\ ∀ v81, v81 = byteAt s (19 : Int) -> ∀ v82, v82 = IntKind.u64.wrap v81 -> ∀ v83, v83 = shlI IntKind.u64 v82 (24 : Int) -> ∀ v84, v84 = bitI BinOp.or IntKind.u64 v80 v83 -> ((0 : Int) ≤ (20 : Int) /\ (20 : Int) < ↑s.size) /\ ∀ v85, v85 = byteAt s (20 : Int) -> ∀ v86, v86 = IntKind.u64.wrap v85 -> ∀ v87, v87 = shlI IntKind.u64 v86 (32 : Int) -> ∀ v88, v88 = bitI BinOp.or IntKind.u64 v84 v87 -> ((0 : Int) ≤ (21 : Int) /\ (21 : Int) < ↑s.size) /\ ∀ v89, v89 = byteAt s (21 : Int) -> ∀ v90, v90 = IntKind.u64.wrap v89 -> ∀ v91, v91 = shlI IntKind.u64 v90 (40 : Int) -> ∀ v92, v92 = bitI BinOp.or IntKind.u64 v88 v91 -> ((0 : Int) ≤ (22 : Int) /\ (22 : Int) < ↑s.size) /\ ∀ v93, v93 = byteAt s (22 : Int) -> ∀ v94, v94 = IntKind.u64.wrap v93 -> ∀ v95, v95 = shlI IntKind.u64 v94 (48 : Int) -> ∀ v96, v96 = bitI BinOp.or IntKind.u64 v92 v95 -> ((0 : Int) ≤ (23 : Int) /\ (23 : Int) < ↑s.size) /\ ∀ v97, v97 = byteAt s (23 : Int) -> ∀ v98, v98 = IntKind.u64.wrap v97 -> ∀ v99, v99 = shlI IntKind.u64 v98 (56 : Int) -> ∀ v100, v100 = bitI BinOp.or IntKind.u64 v96 v99 -> ((0 : Int) ≤ (24 : Int) /\ (24 : Int) < ↑s.size) /\ ∀ v101, v101 = byteAt s (24 : Int) -> ∀ v102, v102 = IntKind.u64.wrap v101 -> ∀ v103, v103 = shlI IntKind.u64 v102 (0 : Int) -> ∀ v104, v104 = bitI BinOp.or IntKind.u64 (0 : Int) v103 -> ((0 : Int) ≤ (25 : Int) /\ (25 : Int) < ↑s.size) /\ ∀ v105, v105 = byteAt s (25 : Int) -> ∀ v106, v106 = IntKind.u64.wrap v105 -> ∀ v107, v107 = shlI IntKind.u64 v106 (8 : Int) -> ∀ v108, v108 = bitI BinOp.or IntKind.u64 v104 v107 -> ((0 : Int) ≤ (26 : Int) /\ (26 : Int) < ↑s.size) /\ ∀ v109, v109 = byteAt s (26 : Int) -> ∀ v110, v110 = IntKind.u64.wrap v109 -> ∀ v111, v111 = shlI IntKind.u64 v110 (16 : Int) -> ∀ v112, v112 = bitI BinOp.or IntKind.u64 v108 v111 -> ((0 : Int) ≤ (27 : Int) /\ (27 : Int) < ↑s.size) /\ ∀ v113, v113 = byteAt s (27 : Int) -> ∀ v114, v114 = IntKind.u64.wrap v113 -> ∀ v115, v115 = shlI IntKind.u64 v114 (24 : Int) -> ∀ v116, v116 = bitI BinOp.or IntKind.u64 v112 v115 -> ((0 : Int) ≤ (28 : Int) /\ (28 : Int) < ↑s.size) /\ ∀ v117, v117 = byteAt s (28 : Int) -> ∀ v118, v118 = IntKind.u64.wrap v117 -> ∀ v119, v119 = shlI IntKind.u64 v118 (32 : Int) -> ∀ v120, v120 = bitI BinOp.or IntKind.u64 v116 v119 -> ((0 : Int) ≤ (29 : Int) /\ (29 : Int) < ↑s.size) /\ ∀ v121, v121 = byteAt s (29 : Int) -> ∀ v122, v122 = IntKind.u64.wrap v121 -> ∀ v123, v123 = shlI IntKind.u64 v122 (40 : Int) -> ∀ v124, v124 = bitI BinOp.or IntKind.u64 v120 v123 -> ((0 : Int) ≤ (30 : Int) /\ (30 : Int) < ↑s.size) /\ ∀ v125, v125 = byteAt s (30 : Int) -> ∀ v126, v126 = IntKind.u64.wrap v125 -> ∀ v127, v127 = shlI IntKind.u64 v126 (48 : Int) -> ∀ v128, v128 = bitI BinOp.or IntKind.u64 v124 v127 -> ((0 : Int) ≤ (31 : Int) /\ (31 : Int) < ↑s.size) /\ ∀ v129, v129 = byteAt s (31 : Int) -> ∀ v130, v130 = IntKind.u64.wrap v129 -> ∀ v131, v131 = shlI IntKind.u64 v130 (56 : Int) -> ∀ v132, v132 = bitI BinOp.or IntKind.u64 v128 v131 -> ((IntKind.u64 = IntKind.u64 /\ v36 = limb (leF s) 0) /\ (IntKind.u64 = IntKind.u64 /\ v68 = limb (leF s) 1) /\ (IntKind.u64 = IntKind.u64 /\ v100 = limb (leF s) 2) /\ (IntKind.u64 = IntKind.u64 /\ v132 = limb (leF s) 3) /\ True) /\ (IntKind.i64 = IntKind.i64 /\ (0 : Int) = erF ↑s.size (32 : Int)) /\ True))
theorem tieFromLittle (w0 : World) (s : ByteArray) : VCFromLittle s = ((recN (GC Try.prog [] w0) 40).call 87 [.str (.sym s)] [] (fun r__ _ => eqV r__ (.tup [.agg [.int .u64 (.sym (limb (leF s) 0)), .int .u64 (.sym (limb (leF s) 1)), .int .u64 (.sym (limb (leF s) 2)), .int .u64 (.sym (limb (leF s) 3))], .int .i64 (.sym (erF s.size 32))]))) := by kernel_rfl
theorem pureFromLittle (s : ByteArray) (h : True) : VCFromLittle s := by
  intro v1 h1
  refine br (fun c => ?_) fun c => ?_
  · rw [h1] at c
    have e : leF s = 0 := by unfold leF; rw [if_neg (by omega)]
    rw [e]
    refine ⟨limbZ, ⟨rfl, ?_⟩, trivial⟩
    unfold erF; rw [if_pos c]
  · intro v3 h3
    refine br (fun c3 => ?_) fun c3 => ?_
    · rw [h3] at c3
      have e : leF s = 0 := by unfold leF; rw [if_neg (by omega)]
      rw [e]
      refine ⟨limbZ, ⟨rfl, ?_⟩, trivial⟩
      unfold erF; rw [if_neg (by omega), if_pos c3]
    · have hs : (s.size : Int) = 32 := by omega
      refine flStep 0 hs (by omega) (by omega) rfl rfl (by omega) (fun a0 e0 b0 => ?_)
      refine flStep 8 hs (by omega) (by omega) rfl rfl (by omega) (fun a1 e1 b1 => ?_)
      refine flStep 16 hs (by omega) (by omega) rfl rfl (by omega) (fun a2 e2 b2 => ?_)
      refine flStep 24 hs (by omega) (by omega) rfl rfl (by omega) (fun a3 e3 b3 => ?_)
      refine flStep 32 hs (by omega) (by omega) rfl rfl (by omega) (fun a4 e4 b4 => ?_)
      refine flStep 40 hs (by omega) (by omega) rfl rfl (by omega) (fun a5 e5 b5 => ?_)
      refine flStep 48 hs (by omega) (by omega) rfl rfl (by omega) (fun a6 e6 b6 => ?_)
      refine flStep 56 hs (by omega) (by omega) rfl rfl (by omega) (fun a7 e7 b7 => ?_)
      refine flStep 0 hs (by omega) (by omega) rfl rfl (by omega) (fun a8 e8 b8 => ?_)
      refine flStep 8 hs (by omega) (by omega) rfl rfl (by omega) (fun a9 e9 b9 => ?_)
      refine flStep 16 hs (by omega) (by omega) rfl rfl (by omega) (fun a10 e10 b10 => ?_)
      refine flStep 24 hs (by omega) (by omega) rfl rfl (by omega) (fun a11 e11 b11 => ?_)
      refine flStep 32 hs (by omega) (by omega) rfl rfl (by omega) (fun a12 e12 b12 => ?_)
      refine flStep 40 hs (by omega) (by omega) rfl rfl (by omega) (fun a13 e13 b13 => ?_)
      refine flStep 48 hs (by omega) (by omega) rfl rfl (by omega) (fun a14 e14 b14 => ?_)
      refine flStep 56 hs (by omega) (by omega) rfl rfl (by omega) (fun a15 e15 b15 => ?_)
      refine flStep 0 hs (by omega) (by omega) rfl rfl (by omega) (fun a16 e16 b16 => ?_)
      refine flStep 8 hs (by omega) (by omega) rfl rfl (by omega) (fun a17 e17 b17 => ?_)
      refine flStep 16 hs (by omega) (by omega) rfl rfl (by omega) (fun a18 e18 b18 => ?_)
      refine flStep 24 hs (by omega) (by omega) rfl rfl (by omega) (fun a19 e19 b19 => ?_)
      refine flStep 32 hs (by omega) (by omega) rfl rfl (by omega) (fun a20 e20 b20 => ?_)
      refine flStep 40 hs (by omega) (by omega) rfl rfl (by omega) (fun a21 e21 b21 => ?_)
      refine flStep 48 hs (by omega) (by omega) rfl rfl (by omega) (fun a22 e22 b22 => ?_)
      refine flStep 56 hs (by omega) (by omega) rfl rfl (by omega) (fun a23 e23 b23 => ?_)
      refine flStep 0 hs (by omega) (by omega) rfl rfl (by omega) (fun a24 e24 b24 => ?_)
      refine flStep 8 hs (by omega) (by omega) rfl rfl (by omega) (fun a25 e25 b25 => ?_)
      refine flStep 16 hs (by omega) (by omega) rfl rfl (by omega) (fun a26 e26 b26 => ?_)
      refine flStep 24 hs (by omega) (by omega) rfl rfl (by omega) (fun a27 e27 b27 => ?_)
      refine flStep 32 hs (by omega) (by omega) rfl rfl (by omega) (fun a28 e28 b28 => ?_)
      refine flStep 40 hs (by omega) (by omega) rfl rfl (by omega) (fun a29 e29 b29 => ?_)
      refine flStep 48 hs (by omega) (by omega) rfl rfl (by omega) (fun a30 e30 b30 => ?_)
      refine flStep 56 hs (by omega) (by omega) rfl rfl (by omega) (fun a31 e31 b31 => ?_)
      have eL : leF s = val4 (w8 s 0) (w8 s 8) (w8 s 16) (w8 s 24) := by unfold leF; rw [if_pos hs]
      have w0 : w8 s 0 = byteAt s 0 + byteAt s 1 * 256 + byteAt s 2 * 65536 + byteAt s 3 * 16777216 + byteAt s 4 * 4294967296 + byteAt s 5 * 1099511627776 + byteAt s 6 * 281474976710656 + byteAt s 7 * 72057594037927936 := rfl
      have q0 : a7 = w8 s 0 := by omega
      have w1 : w8 s 8 = byteAt s 8 + byteAt s 9 * 256 + byteAt s 10 * 65536 + byteAt s 11 * 16777216 + byteAt s 12 * 4294967296 + byteAt s 13 * 1099511627776 + byteAt s 14 * 281474976710656 + byteAt s 15 * 72057594037927936 := rfl
      have q1 : a15 = w8 s 8 := by omega
      have w2 : w8 s 16 = byteAt s 16 + byteAt s 17 * 256 + byteAt s 18 * 65536 + byteAt s 19 * 16777216 + byteAt s 20 * 4294967296 + byteAt s 21 * 1099511627776 + byteAt s 22 * 281474976710656 + byteAt s 23 * 72057594037927936 := rfl
      have q2 : a23 = w8 s 16 := by omega
      have w3 : w8 s 24 = byteAt s 24 + byteAt s 25 * 256 + byteAt s 26 * 65536 + byteAt s 27 * 16777216 + byteAt s 28 * 4294967296 + byteAt s 29 * 1099511627776 + byteAt s 30 * 281474976710656 + byteAt s 31 * 72057594037927936 := rfl
      have q3 : a31 = w8 s 24 := by omega
      obtain ⟨c0, c1, c2, c3⟩ := limbs4' (a := a7) (b := a15) (c := a23) (d := a31) (by omega) (by omega) (by omega) (by omega)
      rw [q0, q1, q2, q3, ← eL] at c0 c1 c2 c3
      rw [q0, q1, q2, q3]
      exact ⟨⟨⟨rfl, c0.symm⟩, ⟨rfl, c1.symm⟩, ⟨rfl, c2.symm⟩, ⟨rfl, c3.symm⟩, trivial⟩, ⟨rfl, by unfold erF; rw [if_neg (by omega), if_neg (by omega)]⟩, trivial⟩
theorem fromLittle_ok : SpecOk Try.prog 87 fromLittleSpec := by
  intro args k h
  unfold fromLittleSpec at h
  split at h
  · rename_i s
    obtain ⟨hr, h⟩ := h
    exact ⟨_, h _ rfl _ rfl, PureOk.of_tie (GC Try.prog []) (fun w__ => gok w__ namesOk_ mixed_ trivial) (fun _ => rfl) (fun _ => rfl) (args' := [.str (.sym s.val)]) ⟨rfl, trivial⟩ 40 (fun w__ => VCFromLittle s.val) (fun w__ => tieFromLittle w__ s.val) (fun w__ => pureFromLittle s.val hr)⟩
  · exact h.elim

def rFromLittleSpec : CSpec
  | [.str s], k => (True) ∧ (∀ r0 : Int, r0 = (leF s.val) → ∀ r1 : Int, r1 = (erF s.val.size 32) → k (.tup [.agg [.int .u64 (.sym (limb r0 0)), .int .u64 (.sym (limb r0 1)), .int .u64 (.sym (limb r0 2)), .int .u64 (.sym (limb r0 3))], .int .i64 (.sym r1)]))
  | _, _ => False
def VCRFromLittle (s : ByteArray) : Prop := VCFromLittle s
theorem tieRFromLittle (w0 : World) (s : ByteArray) : VCRFromLittle s = ((recN (GC Try.prog [] w0) 40).call 47 [.str (.sym s)] [] (fun r__ _ => eqV r__ (.tup [.agg [.int .u64 (.sym (limb (leF s) 0)), .int .u64 (.sym (limb (leF s) 1)), .int .u64 (.sym (limb (leF s) 2)), .int .u64 (.sym (limb (leF s) 3))], .int .i64 (.sym (erF s.size 32))]))) := by kernel_rfl
theorem pureRFromLittle (s : ByteArray) (h : True) : VCRFromLittle s := pureFromLittle s h
theorem rFromLittle_ok : SpecOk Try.prog 47 rFromLittleSpec := by
  intro args k h
  unfold rFromLittleSpec at h
  split at h
  · rename_i s
    obtain ⟨hr, h⟩ := h
    exact ⟨_, h _ rfl _ rfl, PureOk.of_tie (GC Try.prog []) (fun w__ => gok w__ namesOk_ mixed_ trivial) (fun _ => rfl) (fun _ => rfl) (args' := [.str (.sym s.val)]) ⟨rfl, trivial⟩ 40 (fun w__ => VCRFromLittle s.val) (fun w__ => tieRFromLittle w__ s.val) (fun w__ => pureRFromLittle s.val hr)⟩
  · exact h.elim

theorem liStep {x m p y : Int} {G : Int → Prop} (n : Nat) (hm : m = n) (hp : p = 2 ^ n) (hn : n ≤ 64) (hy : x / p % 256 = y) (next : G y) :
    ∀ v1, v1 = shrI IntKind.u64 x m → ∀ v2, v2 = IntKind.u8.wrap v1 → G v2 := by
  intro v1 h1 v2 h2
  have : v2 = y := by rw [h2, h1, w_u8, shrN .u64 x n m p hm hp hn, hy]
  rw [this]; exact next
theorem mulPow (x : Int) (a b : Nat) : x / 2 ^ (a * b) = x / 2 ^ (a * b) := rfl
def littleSpec : CSpec
  | [.agg [.int .u64 n0, .int .u64 n1, .int .u64 n2, .int .u64 n3]], k => ((U64 n0.val) ∧ (U64 n1.val) ∧ (U64 n2.val) ∧ (U64 n3.val)) ∧ (∀ r0 : ByteArray, r0 = (littleF (val4 n0.val n1.val n2.val n3.val)) → k (.str (.sym r0)))
  | _, _ => False
def VCLittle (n0 : Int) (n1 : Int) (n2 : Int) (n3 : Int) : Prop :=
  ∀ v1, v1 = shrI IntKind.u64 n0 (0 : Int) -> ∀ v2, v2 = IntKind.u8.wrap v1 -> ∀ v3, v3 = shrI IntKind.u64 n0 (8 : Int) -> ∀ v4, v4 = IntKind.u8.wrap v3 -> ∀ v5, v5 = shrI IntKind.u64 n0 (16 : Int) -> ∀ v6, v6 = IntKind.u8.wrap v5 -> ∀ v7, v7 = shrI IntKind.u64 n0 (24 : Int) -> ∀ v8, v8 = IntKind.u8.wrap v7 -> ∀ v9, v9 = shrI IntKind.u64 n0 (32 : Int) -> ∀ v10, v10 = IntKind.u8.wrap v9 -> ∀ v11, v11 = shrI IntKind.u64 n0 (40 : Int) -> ∀ v12, v12 = IntKind.u8.wrap v11 -> ∀ v13, v13 = shrI IntKind.u64 n0 (48 : Int) -> ∀ v14, v14 = IntKind.u8.wrap v13 -> ∀ v15, v15 = shrI IntKind.u64 n0 (56 : Int) -> ∀ v16, v16 = IntKind.u8.wrap v15 -> ∀ v17, v17 = shrI IntKind.u64 n1 (0 : Int) -> ∀ v18, v18 = IntKind.u8.wrap v17 -> ∀ v19, v19 = shrI IntKind.u64 n1 (8 : Int) -> ∀ v20, v20 = IntKind.u8.wrap v19 -> ∀ v21, v21 = shrI IntKind.u64 n1 (16 : Int) -> ∀ v22, v22 = IntKind.u8.wrap v21 -> ∀ v23, v23 = shrI IntKind.u64 n1 (24 : Int) -> ∀ v24, v24 = IntKind.u8.wrap v23 -> ∀ v25, v25 = shrI IntKind.u64 n1 (32 : Int) -> ∀ v26, v26 = IntKind.u8.wrap v25 -> ∀ v27, v27 = shrI IntKind.u64 n1 (40 : Int) -> ∀ v28, v28 = IntKind.u8.wrap v27 -> ∀ v29, v29 = shrI IntKind.u64 n1 (48 : Int) -> ∀ v30, v30 = IntKind.u8.wrap v29 -> ∀ v31, v31 = shrI IntKind.u64 n1 (56 : Int) -> ∀ v32, v32 = IntKind.u8.wrap v31 -> ∀ v33, v33 = shrI IntKind.u64 n2 (0 : Int) -> ∀ v34, v34 = IntKind.u8.wrap v33 -> ∀ v35, v35 = shrI IntKind.u64 n2 (8 : Int) -> ∀ v36, v36 = IntKind.u8.wrap v35 -> ∀ v37, v37 = shrI IntKind.u64 n2 (16 : Int) -> ∀ v38, v38 = IntKind.u8.wrap v37 -> ∀ v39, v39 = shrI IntKind.u64 n2 (24 : Int) -> ∀ v40, v40 = IntKind.u8.wrap v39 -> ∀ v41, v41 = shrI IntKind.u64 n2 (32 : Int) -> ∀ v42, v42 = IntKind.u8.wrap v41 -> ∀ v43, v43 = shrI IntKind.u64 n2 (40 : Int) -> ∀ v44, v44 = IntKind.u8.wrap v43 -> ∀ v45, v45 = shrI IntKind.u64 n2 (48 : Int) -> ∀ v46, v46 = IntKind.u8.wrap v45 -> ∀ v47, v47 = shrI IntKind.u64 n2 (56 : Int) -> ∀ v48, v48 = IntKind.u8.wrap v47 -> ∀ v49, v49 = shrI IntKind.u64 n3 (0 : Int) -> ∀ v50, v50 = IntKind.u8.wrap v49 -> ∀ v51, v51 = shrI IntKind.u64 n3 (8 : Int) -> ∀ v52, v52 = IntKind.u8.wrap v51 -> ∀ v53, v53 = shrI IntKind.u64 n3 (16 : Int) -> ∀ v54, v54 = IntKind.u8.wrap v53 -> ∀ v55, v55 = shrI IntKind.u64 n3 (24 : Int) -> ∀ v56, v56 = IntKind.u8.wrap v55 -> ∀ v57, v57 = shrI IntKind.u64 n3 (32 : Int) -> ∀ v58, v58 = IntKind.u8.wrap v57 -> ∀ v59, v59 = shrI IntKind.u64 n3 (40 : Int) -> ∀ v60, v60 = IntKind.u8.wrap v59 -> ∀ v61, v61 = shrI IntKind.u64 n3 (48 : Int) -> ∀ v62, v62 = IntKind.u8.wrap v61 -> ∀ v63, v63 = shrI IntKind.u64 n3 (56 : Int) -> ∀ v64, v64 = IntKind.u8.wrap v63 -> ∀ (v65 : ByteArray), v65 = mkBytes [v2, v4, v6, v8, v10, v12, v14, v16, v18, v20, v22, v24, v26, v28, v30, v32, v34, v36, v38, v40, v42, v44, v46, v48, v50, v52, v54, v56, v58, v60, v62, v64] -> v65 = littleF (val4 n0 n1 n2 n3)
theorem tieLittle (w0 : World) (n0 : Int) (n1 : Int) (n2 : Int) (n3 : Int) : VCLittle n0 n1 n2 n3 = ((recN (GC Try.prog [] w0) 40).call 89 [.agg [.int .u64 (.sym n0), .int .u64 (.sym n1), .int .u64 (.sym n2), .int .u64 (.sym n3)]] [] (fun r__ _ => eqV r__ (.str (.sym (littleF (val4 n0 n1 n2 n3)))))) := by kernel_rfl
theorem pureLittle (n0 n1 n2 n3 : Int) (h : U64 n0 ∧ U64 n1 ∧ U64 n2 ∧ U64 n3) : VCLittle n0 n1 n2 n3 := by
  obtain ⟨h0, h1, h2, h3⟩ := h
  refine liStep 0 rfl (p := 1) rfl (by omega) (y := val4 n0 n1 n2 n3 / 1 % 256) (by unfold val4; omega) ?_
  refine liStep 8 rfl (p := 256) rfl (by omega) (y := val4 n0 n1 n2 n3 / 256 % 256) (by unfold val4; omega) ?_
  refine liStep 16 rfl (p := 65536) rfl (by omega) (y := val4 n0 n1 n2 n3 / 65536 % 256) (by unfold val4; omega) ?_
  refine liStep 24 rfl (p := 16777216) rfl (by omega) (y := val4 n0 n1 n2 n3 / 16777216 % 256) (by unfold val4; omega) ?_
  refine liStep 32 rfl (p := 4294967296) rfl (by omega) (y := val4 n0 n1 n2 n3 / 4294967296 % 256) (by unfold val4; omega) ?_
  refine liStep 40 rfl (p := 1099511627776) rfl (by omega) (y := val4 n0 n1 n2 n3 / 1099511627776 % 256) (by unfold val4; omega) ?_
  refine liStep 48 rfl (p := 281474976710656) rfl (by omega) (y := val4 n0 n1 n2 n3 / 281474976710656 % 256) (by unfold val4; omega) ?_
  refine liStep 56 rfl (p := 72057594037927936) rfl (by omega) (y := val4 n0 n1 n2 n3 / 72057594037927936 % 256) (by unfold val4; omega) ?_
  refine liStep 0 rfl (p := 1) rfl (by omega) (y := val4 n0 n1 n2 n3 / 18446744073709551616 % 256) (by unfold val4; omega) ?_
  refine liStep 8 rfl (p := 256) rfl (by omega) (y := val4 n0 n1 n2 n3 / 4722366482869645213696 % 256) (by unfold val4; omega) ?_
  refine liStep 16 rfl (p := 65536) rfl (by omega) (y := val4 n0 n1 n2 n3 / 1208925819614629174706176 % 256) (by unfold val4; omega) ?_
  refine liStep 24 rfl (p := 16777216) rfl (by omega) (y := val4 n0 n1 n2 n3 / 309485009821345068724781056 % 256) (by unfold val4; omega) ?_
  refine liStep 32 rfl (p := 4294967296) rfl (by omega) (y := val4 n0 n1 n2 n3 / 79228162514264337593543950336 % 256) (by unfold val4; omega) ?_
  refine liStep 40 rfl (p := 1099511627776) rfl (by omega) (y := val4 n0 n1 n2 n3 / 20282409603651670423947251286016 % 256) (by unfold val4; omega) ?_
  refine liStep 48 rfl (p := 281474976710656) rfl (by omega) (y := val4 n0 n1 n2 n3 / 5192296858534827628530496329220096 % 256) (by unfold val4; omega) ?_
  refine liStep 56 rfl (p := 72057594037927936) rfl (by omega) (y := val4 n0 n1 n2 n3 / 1329227995784915872903807060280344576 % 256) (by unfold val4; omega) ?_
  refine liStep 0 rfl (p := 1) rfl (by omega) (y := val4 n0 n1 n2 n3 / 340282366920938463463374607431768211456 % 256) (by unfold val4; omega) ?_
  refine liStep 8 rfl (p := 256) rfl (by omega) (y := val4 n0 n1 n2 n3 / 87112285931760246646623899502532662132736 % 256) (by unfold val4; omega) ?_
  refine liStep 16 rfl (p := 65536) rfl (by omega) (y := val4 n0 n1 n2 n3 / 22300745198530623141535718272648361505980416 % 256) (by unfold val4; omega) ?_
  refine liStep 24 rfl (p := 16777216) rfl (by omega) (y := val4 n0 n1 n2 n3 / 5708990770823839524233143877797980545530986496 % 256) (by unfold val4; omega) ?_
  refine liStep 32 rfl (p := 4294967296) rfl (by omega) (y := val4 n0 n1 n2 n3 / 1461501637330902918203684832716283019655932542976 % 256) (by unfold val4; omega) ?_
  refine liStep 40 rfl (p := 1099511627776) rfl (by omega) (y := val4 n0 n1 n2 n3 / 374144419156711147060143317175368453031918731001856 % 256) (by unfold val4; omega) ?_
  refine liStep 48 rfl (p := 281474976710656) rfl (by omega) (y := val4 n0 n1 n2 n3 / 95780971304118053647396689196894323976171195136475136 % 256) (by unfold val4; omega) ?_
  refine liStep 56 rfl (p := 72057594037927936) rfl (by omega) (y := val4 n0 n1 n2 n3 / 24519928653854221733733552434404946937899825954937634816 % 256) (by unfold val4; omega) ?_
  refine liStep 0 rfl (p := 1) rfl (by omega) (y := val4 n0 n1 n2 n3 / 6277101735386680763835789423207666416102355444464034512896 % 256) (by unfold val4; omega) ?_
  refine liStep 8 rfl (p := 256) rfl (by omega) (y := val4 n0 n1 n2 n3 / 1606938044258990275541962092341162602522202993782792835301376 % 256) (by unfold val4; omega) ?_
  refine liStep 16 rfl (p := 65536) rfl (by omega) (y := val4 n0 n1 n2 n3 / 411376139330301510538742295639337626245683966408394965837152256 % 256) (by unfold val4; omega) ?_
  refine liStep 24 rfl (p := 16777216) rfl (by omega) (y := val4 n0 n1 n2 n3 / 105312291668557186697918027683670432318895095400549111254310977536 % 256) (by unfold val4; omega) ?_
  refine liStep 32 rfl (p := 4294967296) rfl (by omega) (y := val4 n0 n1 n2 n3 / 26959946667150639794667015087019630673637144422540572481103610249216 % 256) (by unfold val4; omega) ?_
  refine liStep 40 rfl (p := 1099511627776) rfl (by omega) (y := val4 n0 n1 n2 n3 / 6901746346790563787434755862277025452451108972170386555162524223799296 % 256) (by unfold val4; omega) ?_
  refine liStep 48 rfl (p := 281474976710656) rfl (by omega) (y := val4 n0 n1 n2 n3 / 1766847064778384329583297500742918515827483896875618958121606201292619776 % 256) (by unfold val4; omega) ?_
  refine liStep 56 rfl (p := 72057594037927936) rfl (by omega) (y := val4 n0 n1 n2 n3 / 452312848583266388373324160190187140051835877600158453279131187530910662656 % 256) (by unfold val4; omega) ?_
  intro v hv
  rw [hv]; rfl
theorem little_ok : SpecOk Try.prog 89 littleSpec := by
  intro args k h
  unfold littleSpec at h
  split at h
  · rename_i n0 n1 n2 n3
    obtain ⟨hr, h⟩ := h
    exact ⟨_, h _ rfl, PureOk.of_tie (GC Try.prog []) (fun w__ => gok w__ namesOk_ mixed_ trivial) (fun _ => rfl) (fun _ => rfl) (args' := [.agg [.int .u64 (.sym n0.val), .int .u64 (.sym n1.val), .int .u64 (.sym n2.val), .int .u64 (.sym n3.val)]]) ⟨⟨⟨rfl, rfl⟩, ⟨rfl, rfl⟩, ⟨rfl, rfl⟩, ⟨rfl, rfl⟩, trivial⟩, trivial⟩ 40 (fun w__ => VCLittle n0.val n1.val n2.val n3.val) (fun w__ => tieLittle w__ n0.val n1.val n2.val n3.val) (fun w__ => pureLittle n0.val n1.val n2.val n3.val hr)⟩
  · exact h.elim

def rLittleSpec : CSpec
  | [.agg [.int .u64 n0, .int .u64 n1, .int .u64 n2, .int .u64 n3]], k => ((U64 n0.val) ∧ (U64 n1.val) ∧ (U64 n2.val) ∧ (U64 n3.val)) ∧ (∀ r0 : ByteArray, r0 = (littleF (val4 n0.val n1.val n2.val n3.val)) → k (.str (.sym r0)))
  | _, _ => False
def VCRLittle (n0 : Int) (n1 : Int) (n2 : Int) (n3 : Int) : Prop := VCLittle n0 n1 n2 n3
theorem tieRLittle (w0 : World) (n0 : Int) (n1 : Int) (n2 : Int) (n3 : Int) : VCRLittle n0 n1 n2 n3 = ((recN (GC Try.prog [] w0) 40).call 48 [.agg [.int .u64 (.sym n0), .int .u64 (.sym n1), .int .u64 (.sym n2), .int .u64 (.sym n3)]] [] (fun r__ _ => eqV r__ (.str (.sym (littleF (val4 n0 n1 n2 n3)))))) := by kernel_rfl
theorem pureRLittle (n0 n1 n2 n3 : Int) (h : U64 n0 ∧ U64 n1 ∧ U64 n2 ∧ U64 n3) : VCRLittle n0 n1 n2 n3 := pureLittle n0 n1 n2 n3 h
theorem rLittle_ok : SpecOk Try.prog 48 rLittleSpec := by
  intro args k h
  unfold rLittleSpec at h
  split at h
  · rename_i n0 n1 n2 n3
    obtain ⟨hr, h⟩ := h
    exact ⟨_, h _ rfl, PureOk.of_tie (GC Try.prog []) (fun w__ => gok w__ namesOk_ mixed_ trivial) (fun _ => rfl) (fun _ => rfl) (args' := [.agg [.int .u64 (.sym n0.val), .int .u64 (.sym n1.val), .int .u64 (.sym n2.val), .int .u64 (.sym n3.val)]]) ⟨⟨⟨rfl, rfl⟩, ⟨rfl, rfl⟩, ⟨rfl, rfl⟩, ⟨rfl, rfl⟩, trivial⟩, trivial⟩ 40 (fun w__ => VCRLittle n0.val n1.val n2.val n3.val) (fun w__ => tieRLittle w__ n0.val n1.val n2.val n3.val) (fun w__ => pureRLittle n0.val n1.val n2.val n3.val hr)⟩
  · exact h.elim

theorem fbytes_congr {f g : Int → Int} {n : Int} (h : ∀ i, 0 ≤ i → i < n → f i = g i) : fbytes f n = fbytes g n := by
  unfold fbytes
  congr 2
  apply List.map_congr_left
  intro i hi
  have := List.mem_range.1 hi
  rw [h i (by omega) (by omega)]
theorem fbytes_size (f : Int → Int) (n : Int) : ((fbytes f n).size : Int) = if n < 0 then 0 else n := by
  have : (fbytes f n).size = n.toNat := by simp [fbytes, ByteArray.size]
  rw [this]; split <;> omega
theorem revF_size (s : ByteArray) : ((revF s).size : Int) = s.size := by unfold revF; rw [fbytes_size, if_neg (by omega)]
def turnedSpec : CSpec
  | [.str s], k => ((s.val.size ≤ 140737488355328)) ∧ (∀ r0 : ByteArray, r0 = (revF s.val) → k (.str (.sym r0)))
  | _, _ => False
def VCTurned (s : ByteArray) : Prop :=
  ∀ (v1 : Int), v1 = ↑s.size -> (0 : Int) ≤ v1 /\ ∀ v2, v2 = IntKind.i64.wrap (v1 - (1 : Int)) -> (∃ (x3 : Int × Int × (Int -> Int)), revR (byteAt s) v1 x3.fst x3.snd.fst x3.snd.snd /\ ((v1 = v1 /\ True) /\ (0 : Int) = x3.fst /\ v2 = x3.snd.fst /\ True) /\ (v1 = v1 /\ (∀ (v4 : Int), (0 : Int) ≤ v4 -> v4 < v1 -> byteAt s v4 = x3.snd.snd v4) /\ True) /\ True) /\ ∀ (v5 : Int × Int × (Int -> Int)), revR (byteAt s) v1 v5.fst v5.snd.fst v5.snd.snd -> ∀ v6, v6 = decide (v5.fst < v5.snd.fst) -> (v6 = true -> ((0 : Int) ≤ v5.snd.fst /\ v5.snd.fst < v1) /\ ((0 : Int) ≤ v5.snd.fst /\ v5.snd.fst < v1) /\ ∀ v7, v7 = v5.snd.snd v5.snd.fst -> ((0 : Int) ≤ v5.fst /\ v5.fst < v1) /\ ((0 : Int) ≤ v5.fst /\ v5.fst < v1) /\ ∀ v8, v8 = v5.snd.snd v5.fst -> ((0 : Int) ≤ v5.fst /\ v5.fst < v1) /\ ((0 : Int) ≤ v5.fst /\ v5.fst + (1 : Int) ≤ v1) /\ ∀ (v9 : Int -> Int), v9 = updF v5.snd.snd v5.fst v7 -> ((0 : Int) ≤ v5.snd.fst /\ v5.snd.fst < v1) /\ ((0 : Int) ≤ v5.snd.fst /\ v5.snd.fst + (1 : Int) ≤ v1) /\ ∀ (v10 : Int -> Int), v10 = updF v9 v5.snd.fst v8 -> ∀ v11, v11 = IntKind.i64.wrap (v5.fst + (1 : Int)) -> ∀ v12, v12 = IntKind.i64.wrap (v5.snd.fst - (1 : Int)) -> ∃ (x13 : Int × Int × (Int -> Int)), revR (byteAt s) v1 x13.fst x13.snd.fst x13.snd.snd /\ (((v1 = v1 /\ True) /\ v11 = x13.fst /\ v12 = x13.snd.fst /\ True) /\ (v1 = v1 /\ (∀ (v14 : Int), (0 : Int) ≤ v14 -> v14 < v1 -> v10 v14 = x13.snd.snd v14) /\ True) /\ True) /\ (x13.snd.fst - x13.fst + (1 : Int)).toNat < (v5.snd.fst - v5.fst + (1 : Int)).toNat) /\ (v6 = false -> ((0 : Int) ≤ v1 /\ v1 ≤ v1) /\ ∀ (v15 : ByteArray), v15 = fbytes v5.snd.snd v1 -> v15 = revF s)
theorem tieTurned (w0 : World) (s : ByteArray) : VCTurned s = ((recN (GL Try.prog turnSpec turnAnnSpec turnCutSpec w0) 40).call 153 [.str (.sym s)] [] (fun r__ _ => eqV r__ (.str (.sym (revF s))))) := by kernel_rfl
theorem pureTurned (s : ByteArray) (h : s.size ≤ 140737488355328) : VCTurned s := by
  intro v1 h1
  refine ⟨by omega, fun v2 h2 => ?_⟩
  rw [i64_id (by omega) (by omega)] at h2
  refine ⟨⟨(0, v2, byteAt s), ⟨⟨by omega, by simp only; omega, by simp only; omega⟩, fun x x0 x1 => ?_⟩, ⟨⟨rfl, trivial⟩, rfl, rfl, trivial⟩, ⟨rfl, fun _ _ _ => rfl, trivial⟩, trivial⟩, ?_⟩
  · simp only; rw [if_neg (by omega)]
  rintro ⟨i, j, f⟩ ⟨⟨i0, ij, i1⟩, hf⟩
  simp only at i0 ij i1 hf
  refine br (fun c => ?_) fun c => ?_
  · simp only at c
    refine ⟨by simp only; omega, by simp only; omega, fun v7 h7 => ⟨by simp only; omega, by simp only; omega, fun v8 h8 => ⟨by simp only; omega, by simp only; omega, fun v9 h9 => ⟨by simp only; omega, by simp only; omega, fun v10 h10 v11 h11 v12 h12 => ?_⟩⟩⟩⟩
    simp only at h7 h8 h9 h10 h11 h12
    rw [i64_id (by omega) (by omega)] at h11 h12
    refine ⟨(v11, v12, v10), ⟨⟨by simp only; omega, by simp only; omega, by simp only; omega⟩, fun x x0 x1 => ?_⟩, ⟨⟨⟨rfl, trivial⟩, rfl, rfl, trivial⟩, ⟨rfl, fun _ _ _ => rfl, trivial⟩, trivial⟩, by simp only; omega⟩
    simp only
    rw [h10, h9]
    unfold updF
    by_cases e1 : x = j
    · rw [if_pos e1, h8, hf i (by omega) (by omega), if_neg (by omega), if_pos (by omega)]
      congr 1; omega
    · rw [if_neg e1]
      by_cases e2 : x = i
      · rw [if_pos e2, h7, hf j (by omega) (by omega), if_neg (by omega), if_pos (by omega)]
        congr 1; omega
      · rw [if_neg e2, hf x x0 x1]
        by_cases e3 : x < i ∨ j < x
        · rw [if_pos e3, if_pos (by omega)]
        · rw [if_neg e3, if_neg (by omega)]
  · refine ⟨⟨by omega, by omega⟩, fun v15 h15 => ?_⟩
    rw [h15]
    simp only
    unfold revF
    rw [← h1]
    refine fbytes_congr fun x x0 x1 => ?_
    rw [hf x x0 x1]
    simp only at c
    split
    · rfl
    · congr 1; omega
theorem turned_ok : SpecOk Try.prog 153 turnedSpec := by
  intro args k h
  unfold turnedSpec at h
  split at h
  · rename_i s
    obtain ⟨hr, h⟩ := h
    exact ⟨_, h _ rfl, PureOk.of_tie (GL Try.prog turnSpec turnAnnSpec turnCutSpec) (fun w__ => gokL w__ namesOk_ mixed_ turn_ok) (fun _ => rfl) (fun _ => rfl) (args' := [.str (.sym s.val)]) ⟨rfl, trivial⟩ 40 (fun w__ => VCTurned s.val) (fun w__ => tieTurned w__ s.val) (fun w__ => pureTurned s.val hr)⟩
  · exact h.elim

def rTurnedSpec : CSpec
  | [.str s], k => ((s.val.size ≤ 140737488355328)) ∧ (∀ r0 : ByteArray, r0 = (revF s.val) → k (.str (.sym r0)))
  | _, _ => False
def VCRTurned (s : ByteArray) : Prop :=
  ∀ (v1 : Int), v1 = ↑s.size -> ((0 : Int) ≤ v1 /\ v1 = v1 /\ v1 * (1 : Int) ≤ (140737488355328 : Int) /\ v1 ≤ (140737488355328 : Int)) /\ (∃ (x2 : Int × (Int -> Int)), rturnR s v1 x2.fst x2.snd /\ (s = s /\ (v1 = v1 /\ v1 = v1) /\ (0 : Int) = x2.fst /\ True) /\ (v1 = v1 /\ (∀ (v3 : Int), (0 : Int) ≤ v3 -> v3 < v1 -> (0 : Int) = x2.snd v3) /\ True) /\ True) /\ ∀ (v4 : Int × (Int -> Int)), rturnR s v1 v4.fst v4.snd -> ∀ (v5 : Int), v5 = ↑s.size -> ∀ v6, v6 = decide (v4.fst < v5) -> (v6 = true -> ∀ (v7 : Int), v7 = ↑s.size -> ∀ v8, v8 = IntKind.i64.wrap (v7 - (1 : Int)) -> ∀ v9, v9 = IntKind.i64.wrap (v8 - v4.fst) -> ((0 : Int) ≤ v9 /\ v9 < ↑s.size) /\ ∀ v10, v10 = byteAt s v9 -> ((0 : Int) ≤ v4.fst /\ v4.fst < v1) /\ ((0 : Int) ≤ v4.fst /\ v4.fst + (1 : Int) ≤ v1) /\ ∀ (v11 : Int -> Int), v11 = updF v4.snd v4.fst v10 -> ∀ v12, v12 = IntKind.i64.wrap (v4.fst + (1 : Int)) -> ∃ (x13 : Int × (Int -> Int)), rturnR s v1 x13.fst x13.snd /\ ((s = s /\ (v1 = v1 /\ v1 = v1) /\ v12 = x13.fst /\ True) /\ (v1 = v1 /\ (∀ (v14 : Int), (0 : Int) ≤ v14 -> v14 < v1 -> v11 v14 = x13.snd v14) /\ True) /\ True) /\ (v1 - x13.fst).toNat < (v1 - v4.fst).toNat) /\ (v6 = false -> ((0 : Int) ≤ v1 /\ v1 ≤ v1) /\ ∀ (v15 : ByteArray), v15 = fbytes v4.snd v1 -> v15 = revF s)
theorem tieRTurned (w0 : World) (s : ByteArray) : VCRTurned s = ((recN (GL Try.prog turnSpec turnAnnSpec turnCutSpec w0) 40).call 127 [.str (.sym s)] [] (fun r__ _ => eqV r__ (.str (.sym (revF s))))) := by kernel_rfl
theorem pureRTurned (s : ByteArray) (h : s.size ≤ 140737488355328) : VCRTurned s := by
  intro v1 h1
  refine ⟨⟨by omega, rfl, by omega, by omega⟩, ⟨(0, fun _ => 0), ⟨⟨by simp only; omega, by simp only; omega, h1⟩, fun j j0 j1 => by simp only at j1; omega⟩, ⟨rfl, ⟨rfl, rfl⟩, rfl, trivial⟩, ⟨rfl, fun _ _ _ => rfl, trivial⟩, trivial⟩, ?_⟩
  rintro ⟨i, f⟩ ⟨⟨i0, i1, _⟩, hf⟩ v5 h5
  simp only at i0 i1 hf
  refine br (fun c => ?_) fun c => ?_
  · simp only at c
    intro v7 h7 v8 h8 v9 h9
    rw [i64_id (by omega) (by omega)] at h8
    simp only at h9
    rw [i64_id (by omega) (by omega)] at h9
    refine ⟨by omega, fun v10 h10 => ⟨by simp only; omega, by simp only; omega, fun v11 h11 v12 h12 => ?_⟩⟩
    simp only at h11 h12
    rw [i64_id (by omega) (by omega)] at h12
    refine ⟨(v12, v11), ⟨⟨by simp only; omega, by simp only; omega, h1⟩, fun j j0 j1 => ?_⟩, ⟨⟨rfl, ⟨rfl, rfl⟩, rfl, trivial⟩, ⟨rfl, fun _ _ _ => rfl, trivial⟩, trivial⟩, by simp only; omega⟩
    simp only at j1 ⊢
    rw [h11]; unfold updF
    by_cases e : j = i
    · rw [if_pos e, h10]; congr 1; omega
    · rw [if_neg e, hf j j0 (by omega)]
  · refine ⟨⟨by omega, by omega⟩, fun v15 h15 => ?_⟩
    rw [h15]
    simp only at c ⊢
    unfold revF
    rw [← h1]
    exact fbytes_congr fun x x0 x1 => hf x x0 (by omega)
theorem rTurned_ok : SpecOk Try.prog 127 rTurnedSpec := by
  intro args k h
  unfold rTurnedSpec at h
  split at h
  · rename_i s
    obtain ⟨hr, h⟩ := h
    exact ⟨_, h _ rfl, PureOk.of_tie (GL Try.prog turnSpec turnAnnSpec turnCutSpec) (fun w__ => gokL w__ namesOk_ mixed_ turn_ok) (fun _ => rfl) (fun _ => rfl) (args' := [.str (.sym s.val)]) ⟨rfl, trivial⟩ 40 (fun w__ => VCRTurned s.val) (fun w__ => tieRTurned w__ s.val) (fun w__ => pureRTurned s.val hr)⟩
  · exact h.elim

end Go.Proofs.Ytaaobpalpcdlbaa.Bits
