import Derived.Test.YtbocopfieadgoaaSxR
import Derived.Test.YtbocopfieadgoaaProg
import Derived.Test.YtbocopfieadgoaaBits
import Derived.KernelRfl
namespace Go.Proofs.Ytbocopfieadgoaa.Bits
open Go Go.Sx Go.RowKit
set_option linter.unusedVariables false
set_option maxRecDepth 100000
def knuthR (u d1 d0 n q r : Int) : Prop := q * d1 + r = u ∧ 0 ≤ q ∧ q ≤ 4294967297 ∧ 0 ≤ r ∧ r < 4294967296 ∧ u * 4294967296 + n < (q + 1) * (d1 * 4294967296 + d0)
def annQSpec (tq tr tu t1 t0 tn : Nat) (keep : List Nat) : St → Inv := fun S =>
  { ι := Int × Int
    T := fun i => stS (keepS S keep) [(tq, .int .u64 (.sym i.1)), (tr, .int .u64 (.sym i.2))]
    R := fun i => knuthR (iat S tu) (iat S t1) (iat S t0) (iat S tn) i.1 i.2
    μ := fun i => i.1.toNat }
def cutQSpec (tq tr tu t1 t0 tn : Nat) (keep : List Nat) : St → Inv := fun S =>
  { ι := Int
    T := fun q => stS (keepS S keep) [(tq, .int .u64 (.sym q))]
    R := fun q => q = (iat S tu * 4294967296 + iat S tn) / (iat S t1 * 4294967296 + iat S t0)
    μ := fun _ => 0 }
def keep0Spec : List Nat := [2, 8, 9, 10, 11, 13, 14]
def keep2Spec : List Nat := [2, 8, 9, 10, 14, 15, 17]
def divAnnSpec : Anns := [(36, 0, annQSpec 15 16 11 9 10 13 keep0Spec), (36, 2, annQSpec 18 16 17 9 10 14 keep2Spec)]
def divCutSpec : Anns := [(36, 0, cutQSpec 15 16 11 9 10 13 keep0Spec), (36, 2, cutQSpec 18 16 17 9 10 14 keep2Spec)]
def lensSpec : List (FuncId × CSpec) := [(39, len64Spec)]
theorem lens_ok : SpecsOk Try.prog lensSpec := ⟨len64_ok, trivial⟩
theorem knuth_start {u d1 d0 n : Int} (hd1 : 2147483648 ≤ d1) (hd1' : d1 ≤ 4294967295) (hd0 : 0 ≤ d0) (hd0' : d0 ≤ 4294967295) (hn : 0 ≤ n) (hn' : n ≤ 4294967295) (hu : 0 ≤ u) (hu' : u < d1 * 4294967296 + d0) :
    knuthR u d1 d0 n (u / d1) (u - u / d1 * d1) := by
  have e := Int.emod_add_mul_ediv u d1
  have m0 := Int.emod_nonneg u (show d1 ≠ 0 by omega)
  have m1 := Int.emod_lt_of_pos u (show 0 < d1 by omega)
  have q0 : 0 ≤ u / d1 := Int.ediv_nonneg hu (by omega)
  rw [Int.mul_comm] at e
  generalize u % d1 = r at *
  generalize u / d1 = q at *
  have q1 : q ≤ 4294967297 := by
    rcases Int.lt_or_le 4294967297 q with h | h
    · have := Int.mul_le_mul_of_nonneg_right (show 4294967298 ≤ q by omega) (show 0 ≤ d1 by omega)
      omega
    · exact h
  have k : (q + 1) * (d1 * 4294967296 + d0) = (q * d1) * 4294967296 + d1 * 4294967296 + (q + 1) * d0 := by grind
  have k2 : 0 ≤ (q + 1) * d0 := Int.mul_nonneg (by omega) hd0
  refine ⟨by omega, q0, q1, by omega, by omega, ?_⟩
  rw [k]
  omega
theorem quo_eq {N Y q : Int} (hY : 0 < Y) (h1 : q * Y ≤ N) (h2 : N < (q + 1) * Y) : q = N / Y :=
  Int.le_antisymm (Int.le_ediv_of_mul_le hY h1) (Int.lt_add_one_iff.1 (Int.ediv_lt_of_lt_mul hY h2))
theorem knuth_out {u d1 d0 n q r : Int} (hd1 : 2147483648 ≤ d1) (hd0 : 0 ≤ d0) (h : knuthR u d1 d0 n q r) (ht : q * d0 ≤ 4294967296 * r + n) : q = (u * 4294967296 + n) / (d1 * 4294967296 + d0) := by
  obtain ⟨k1, k2, k3, k4, k5, k6⟩ := h
  refine quo_eq (by omega) ?_ k6
  have k : q * (d1 * 4294967296 + d0) = (q * d1) * 4294967296 + q * d0 := by grind
  rw [k]; omega
theorem knuth_next {u d1 d0 n q r : Int} (hd1 : 2147483648 ≤ d1) (hd1' : d1 ≤ 4294967295) (hd0 : 0 ≤ d0) (hd0' : d0 ≤ 4294967295) (hn : 0 ≤ n) (hn' : n ≤ 4294967295) (hu' : u < d1 * 4294967296 + d0) (h : knuthR u d1 d0 n q r)
    (ht : 4294967296 ≤ q ∨ q * d0 > 4294967296 * r + n) : 1 ≤ q ∧ (r + d1 < 4294967296 → knuthR u d1 d0 n (q - 1) (r + d1)) ∧ (4294967296 ≤ r + d1 → q - 1 = (u * 4294967296 + n) / (d1 * 4294967296 + d0)) := by
  obtain ⟨k1, k2, k3, k4, k5, k6⟩ := h
  have q1 : 1 ≤ q := by
    rcases ht with h | h
    · omega
    · rcases Int.lt_or_le 0 q with h' | h'
      · omega
      · have : q = 0 := by omega
        subst this
        omega
  have up : u * 4294967296 + n < q * (d1 * 4294967296 + d0) := by
    have k : q * (d1 * 4294967296 + d0) = (q * d1) * 4294967296 + q * d0 := by grind
    rcases ht with h | h
    · have := Int.mul_le_mul_of_nonneg_right h (show 0 ≤ d1 * 4294967296 + d0 by omega)
      omega
    · rw [k]; omega
  have e1 : (q - 1) * d1 = q * d1 - d1 := by grind
  refine ⟨q1, fun hr => ⟨by omega, by omega, by omega, by omega, hr, by rw [show q - 1 + 1 = q by omega]; exact up⟩, fun hr => ?_⟩
  refine quo_eq (by omega) ?_ (by rw [show q - 1 + 1 = q by omega]; exact up)
  have k : (q - 1) * (d1 * 4294967296 + d0) = (q * d1 - d1) * 4294967296 + (q - 1) * d0 := by grind
  have b := (mul_in (show 0 ≤ q - 1 by omega) (show q - 1 ≤ 4294967296 by omega) hd0 hd0').2
  rw [k]
  omega
theorem knuth_round {u d1 d0 n q r : Int} {A3 : Prop} {A1 A2 B1 B2 : Int → Int → Prop} (hd1 : 2147483648 ≤ d1) (hd1' : d1 ≤ 4294967295) (hd0 : 0 ≤ d0) (hd0' : d0 ≤ 4294967295) (hn : 0 ≤ n) (hn' : n ≤ 4294967295) (hu' : u < d1 * 4294967296 + d0) (h : knuthR u d1 d0 n q r)
    (ha1 : ∀ a b, a = (u * 4294967296 + n) / (d1 * 4294967296 + d0) → A1 a b) (ha2 : ∀ a b, knuthR u d1 d0 n a b → a.toNat < q.toNat → A2 a b) (ha3 : q = (u * 4294967296 + n) / (d1 * 4294967296 + d0) → A3)
    (hb1 : ∀ a b, a = (u * 4294967296 + n) / (d1 * 4294967296 + d0) → B1 a b) (hb2 : ∀ a b, knuthR u d1 d0 n a b → a.toNat < q.toNat → B2 a b) :
    ∀ (v24 : Bool), v24 = decide (q ≥ 4294967296) → (v24 = false → ∀ v25, v25 = IntKind.u64.wrap (q * d0) → ∀ v26, v26 = IntKind.u64.wrap (4294967296 * r) → ∀ v27, v27 = IntKind.u64.wrap (v26 + n) →
      ∀ v28 : Bool, v28 = decide (v25 > v27) → (v28 = true → ∀ v29, v29 = IntKind.u64.wrap (q - 1) → ∀ v30, v30 = IntKind.u64.wrap (r + d1) → ∀ v31 : Bool, v31 = decide (v30 ≥ 4294967296) → (v31 = true → A1 v29 v30) ∧ (v31 = false → A2 v29 v30)) ∧ (v28 = false → A3)) ∧
      (v24 = true → ∀ v35, v35 = IntKind.u64.wrap (q - 1) → ∀ v36, v36 = IntKind.u64.wrap (r + d1) → ∀ v37 : Bool, v37 = decide (v36 ≥ 4294967296) → (v37 = true → B1 v35 v36) ∧ (v37 = false → B2 v35 v36)) := by
  have h' := h
  obtain ⟨k1, k2, k3, k4, k5, k6⟩ := h'
  refine rb (fun e24 v25 h25 v26 h26 v27 h27 => ?_) fun e24 v35 h35 v36 h36 => ?_
  · obtain ⟨m0, m1⟩ := mul_in k2 (show q ≤ 4294967295 by omega) hd0 hd0'
    rw [u64_id (by omega) (by omega)] at h25
    rw [u64_id (by omega) (by omega)] at h26
    rw [u64_id (by omega) (by omega)] at h27
    refine br (fun e28 v29 h29 v30 h30 => ?_) fun e28 => ha3 (knuth_out hd1 hd0 h (by omega))
    obtain ⟨n1, n2, n3⟩ := knuth_next hd1 hd1' hd0 hd0' hn hn' hu' h (.inr (by omega))
    rw [u64_id (by omega) (by omega)] at h29 h30
    subst h29 h30
    exact br (fun e => ha1 _ _ (n3 (by omega))) fun e => ha2 _ _ (n2 (by omega)) (by omega)
  · obtain ⟨n1, n2, n3⟩ := knuth_next hd1 hd1' hd0 hd0' hn hn' hu' h (.inl (by omega))
    rw [u64_id (by omega) (by omega)] at h35 h36
    subst h35 h36
    exact br (fun e => hb1 _ _ (n3 (by omega))) fun e => hb2 _ _ (n2 (by omega)) (by omega)

def div64Spec : CSpec
  | [.int .u64 hi, .int .u64 lo, .int .u64 y], k => ((U64 hi.val) ∧ (U64 lo.val) ∧ (U64 y.val) ∧ (hi.val < y.val)) ∧ (∀ r0 : Int, r0 = ((hi.val * 18446744073709551616 + lo.val) / y.val) → ∀ r1 : Int, r1 = ((hi.val * 18446744073709551616 + lo.val) % y.val) → k (.tup [.int .u64 (.sym r0), .int .u64 (.sym r1)]))
  | _, _ => False
def VCDiv64 (hi : Int) (lo : Int) (y : Int) : Prop :=
  ∀ v1, v1 = (y == (0 : Int)) -> (v1 = true -> False) /\ (v1 = false -> ∀ v2, v2 = decide (y ≤ hi) -> (v2 = true -> False) /\ (v2 = false -> ∀ v3, v3 = (hi == (0 : Int)) -> (v3 = true -> (!decide (y = (0 : Int))) = true /\ ∀ v4, v4 = IntKind.u64.wrap (lo.tdiv y) -> (!decide (y = (0 : Int))) = true /\ ∀ v5, v5 = lo.tmod y -> (IntKind.u64 = IntKind.u64 /\ v4 = (hi * (18446744073709551616 : Int) + lo) / y) /\ (IntKind.u64 = IntKind.u64 /\ v5 = (hi * (18446744073709551616 : Int) + lo) % y) /\ True) /\ (v3 = false -> U64 y /\ ∀ v6, v6 = lenF y -> ∀ v7, v7 = IntKind.i64.wrap ((64 : Int) - v6) -> ∀ v8, v8 = IntKind.u64.wrap v7 -> decide ((0 : Int) ≤ v8) = true /\ ∀ v9, v9 = shlI IntKind.u64 y v8 -> ∀ v10, v10 = shrI IntKind.u64 v9 (32 : Int) -> ∀ v11, v11 = bitI BinOp.and IntKind.u64 v9 (4294967295 : Int) -> decide ((0 : Int) ≤ v8) = true /\ ∀ v12, v12 = shlI IntKind.u64 hi v8 -> ∀ v13, v13 = IntKind.u64.wrap ((64 : Int) - v8) -> decide ((0 : Int) ≤ v13) = true /\ ∀ v14, v14 = shrI IntKind.u64 lo v13 -> ∀ v15, v15 = bitI BinOp.or IntKind.u64 v12 v14 -> decide ((0 : Int) ≤ v8) = true /\ ∀ v16, v16 = shlI IntKind.u64 lo v8 -> ∀ v17, v17 = shrI IntKind.u64 v16 (32 : Int) -> ∀ v18, v18 = bitI BinOp.and IntKind.u64 v16 (4294967295 : Int) -> (!decide (v10 = (0 : Int))) = true /\ ∀ v19, v19 = IntKind.u64.wrap (v15.tdiv v10) -> ∀ v20, v20 = IntKind.u64.wrap (v19 * v10) -> ∀ v21, v21 = IntKind.u64.wrap (v15 - v20) -> ((∃ (x22 : Int × Int), knuthR v15 v10 v11 v17 x22.fst x22.snd /\ (v9 = v9 /\ v8 = v8 /\ v10 = v10 /\ v11 = v11 /\ v15 = v15 /\ v17 = v17 /\ v18 = v18 /\ v19 = x22.fst /\ v21 = x22.snd /\ True) /\ True) /\ ∀ (v23 : Int × Int), knuthR v15 v10 v11 v17 v23.fst v23.snd -> ∀ v24, v24 = decide (v23.fst ≥ (4294967296 : Int)) -> (v24 = false -> ∀ v25, v25 = IntKind.u64.wrap (v23.fst * v11) -> ∀ v26, v26 = IntKind.u64.wrap ((4294967296 : Int) * v23.snd) -> ∀ v27, v27 = IntKind.u64.wrap (v26 + v17) -> ∀ v28, v28 = decide (v25 > v27) -> (v28 = true -> ∀ v29, v29 = IntKind.u64.wrap (v23.fst - (1 : Int)) -> ∀ v30, v30 = IntKind.u64.wrap (v23.snd + v10) -> ∀ v31, v31 = decide (v30 ≥ (4294967296 : Int)) -> (v31 = true -> ∃ (x32 : Int), x32 = (v15 * (4294967296 : Int) + v17) / (v10 * (4294967296 : Int) + v11) /\ (v9 = v9 /\ v8 = v8 /\ v10 = v10 /\ v11 = v11 /\ v15 = v15 /\ v17 = v17 /\ v18 = v18 /\ v29 = x32 /\ True) /\ True) /\ (v31 = false -> ∃ (x33 : Int × Int), knuthR v15 v10 v11 v17 x33.fst x33.snd /\ ((v9 = v9 /\ v8 = v8 /\ v10 = v10 /\ v11 = v11 /\ v15 = v15 /\ v17 = v17 /\ v18 = v18 /\ v29 = x33.fst /\ v30 = x33.snd /\ True) /\ True) /\ x33.fst.toNat < v23.fst.toNat)) /\ (v28 = false -> ∃ (x34 : Int), x34 = (v15 * (4294967296 : Int) + v17) / (v10 * (4294967296 : Int) + v11) /\ (v9 = v9 /\ v8 = v8 /\ v10 = v10 /\ v11 = v11 /\ v15 = v15 /\ v17 = v17 /\ v18 = v18 /\ v23.fst = x34 /\ True) /\ True)) /\ (v24 = true -> ∀ v35, v35 = IntKind.u64.wrap (v23.fst - (1 : Int)) -> ∀ v36, v36 = IntKind.u64.wrap (v23.snd + v10) -> ∀ v37, v37 = decide (v36 ≥ (4294967296 : Int)) -> (v37 = true -> ∃ (x38 : Int), x38 = (v15 * (4294967296 : Int) + v17) / (v10 * (4294967296 : Int) + v11) /\ (v9 = v9 /\ v8 = v8 /\ v10 = v10 /\ v11 = v11 /\ v15 = v15 /\ v17 = v17 /\ v18 = v18 /\ v35 = x38 /\ True) /\ True) /\ (v37 = false -> ∃ (x39 : Int × Int), knuthR v15 v10 v11 v17 x39.fst x39.snd /\ ((v9 = v9 /\ v8 = v8 /\ v10 = v10 /\ v11 = v11 /\ v15 = v15 /\ v17 = v17 /\ v18 = v18 /\ v35 = x39.fst /\ v36 = x39.snd /\ True) /\ True) /\ x39.fst.toNat < v23.fst.toNat))) /\ ∀ v40, v40 = (v15 * (4294967296 : Int) + v17) / (v10 * (4294967296 : Int) + v11) -> ∀ v41, v41 = IntKind.u64.wrap (v15 * (4294967296 : Int)) -> ∀ v42, v42 = IntKind.u64.wrap (v41 + v17) -> ∀ v43, v43 = IntKind.u64.wrap (v40 * v9) -> ∀ v44, v44 = IntKind.u64.wrap (v42 - v43) -> (!decide (v10 = (0 : Int))) = true /\ ∀ v45, v45 = IntKind.u64.wrap (v44.tdiv v10) -> ∀ v46, v46 = IntKind.u64.wrap (v45 * v10) -> ∀ v47, v47 = IntKind.u64.wrap (v44 - v46) -> ((∃ (x48 : Int × Int), knuthR v44 v10 v11 v18 x48.fst x48.snd /\ (v9 = v9 /\ v8 = v8 /\ v10 = v10 /\ v11 = v11 /\ v18 = v18 /\ v40 = v40 /\ v47 = x48.snd /\ v44 = v44 /\ v45 = x48.fst /\ True) /\ True) /\ ∀ (v49 : Int × Int), knuthR v44 v10 v11 v18 v49.fst v49.snd -> ∀ v50, v50 = decide (v49.fst ≥ (4294967296 : Int)) -> (v50 = false -> ∀ v51, v51 = IntKind.u64.wrap (v49.fst * v11) -> ∀ v52, v52 = IntKind.u64.wrap ((4294967296 : Int) * v49.snd) -> ∀ v53, v53 = IntKind.u64.wrap (v52 + v18) -> ∀ v54, v54 = decide (v51 > v53) -> (v54 = true -> ∀ v55, v55 = IntKind.u64.wrap (v49.fst - (1 : Int)) -> ∀ v56, v56 = IntKind.u64.wrap (v49.snd + v10) -> ∀ v57, v57 = decide (v56 ≥ (4294967296 : Int)) -> (v57 = true -> ∃ (x58 : Int), x58 = (v44 * (4294967296 : Int) + v18) / (v10 * (4294967296 : Int) + v11) /\ (v9 = v9 /\ v8 = v8 /\ v10 = v10 /\ v11 = v11 /\ v18 = v18 /\ v40 = v40 /\ v44 = v44 /\ v55 = x58 /\ True) /\ True) /\ (v57 = false -> ∃ (x59 : Int × Int), knuthR v44 v10 v11 v18 x59.fst x59.snd /\ ((v9 = v9 /\ v8 = v8 /\ v10 = v10 /\ v11 = v11 /\ v18 = v18 /\ v40 = v40 /\ v56 = x59.snd /\ v44 = v44 /\ v55 = x59.fst /\ True) /\ True) /\ x59.fst.toNat < v49.fst.toNat)) /\ (v54 = false -> ∃ (x60 : Int), x60 = (v44 * (4294967296 : Int) + v18) / (v10 * (4294967296 : Int) + v11) /\ (v9 = v9 /\ v8 = v8 /\ v10 = v10 /\ v11 = v11 /\ v18 = v18 /\ v40 = v40 /\ v44 = v44 /\ v49.fst = x60 /\ True) /\ True)) /\ (v50 = true -> ∀ v61, v61 = IntKind.u64.wrap (v49.fst - (1 : Int)) -> ∀ v62, v62 = IntKind.u64.wrap (v49.snd + v10) -> ∀ v63, v63 = decide (v62 ≥ (4294967296 : Int)) -> (v63 = true -> ∃ (x64 : Int), x64 = (v44 * (4294967296 : Int) + v18) / (v10 * (4294967296 : Int) + v11) /\ (v9 = v9 /\ v8 = v8 /\ v10 = v10 /\ v11 = v11 /\ v18 = v18 /\ v40 = v40 /\ v44 = v44 /\ v61 = x64 /\ True) /\ True) /\ (v63 = false -> ∃ (x65 : Int × Int), knuthR v44 v10 v11 v18 x65.fst x65.snd /\ ((v9 = v9 /\ v8 = v8 /\ v10 = v10 /\ v11 = v11 /\ v18 = v18 /\ v40 = v40 /\ v62 = x65.snd /\ v44 = v44 /\ v61 = x65.fst /\ True) /\ True) /\ x65.fst.toNat < v49.fst.toNat))) /\ ∀ v66, v66 = (v44 * (4294967296 : Int) + v18) / (v10 * (4294967296 : Int) + v11) -> ∀ v67, v67 = IntKind.u64.wrap (v40 * (4294967296 : Int)) -> ∀ v68, v68 = IntKind.u64.wrap (v67 + v66) -> ∀ v69, v69 = IntKind.u64.wrap (v44 * (4294967296 : Int)) -> ∀ v70, v70 = IntKind.u64.wrap (v69 + v18) -> ∀ v71, v71 = IntKind.u64.wrap (v66 * v9) -> ∀ v72, v72 = IntKind.u64.wrap (v70 - v71) -> decide ((0 : Int) ≤ v8) = true /\ ∀ v73, v73 = shrI IntKind.u64 v72 v8 -> (IntKind.u64 = IntKind.u64 /\ v68 = (hi * (18446744073709551616 : Int) + lo) / y) /\ (IntKind.u64 = IntKind.u64 /\ v73 = (hi * (18446744073709551616 : Int) + lo) % y) /\ True)))
theorem tieDiv64 (w0 : World) (hi : Int) (lo : Int) (y : Int) : VCDiv64 hi lo y = ((recN (GL Try.prog lensSpec divAnnSpec divCutSpec w0) 20).call 36 [.int .u64 (.sym hi), .int .u64 (.sym lo), .int .u64 (.sym y)] [] (fun r__ _ => eqV r__ (.tup [.int .u64 (.sym ((hi * 18446744073709551616 + lo) / y)), .int .u64 (.sym ((hi * 18446744073709551616 + lo) % y))]))) := by kernel_rfl
theorem pureDiv64 (hi lo y : Int) (h : U64 hi ∧ U64 lo ∧ U64 y ∧ hi < y) : VCDiv64 hi lo y := by
  obtain ⟨hhi, hlo, hy, hlt⟩ := h
  have hhi' := hhi
  have hlo' := hlo
  have hy' := hy
  unfold U64 at hhi hlo hy
  refine brE (fun e => absurd e (by omega)) fun e0 => br (fun e => absurd e (by omega)) fun e1 => brE (fun e2 => ?_) fun e2 => ?_
  · subst e2
    refine ⟨by simp [e0], fun v4 h4 => ⟨by simp [e0], fun v5 h5 => ⟨⟨rfl, ?_⟩, ⟨rfl, ?_⟩, trivial⟩⟩⟩
    · have b : 0 ≤ lo / y ∧ lo / y ≤ lo := ⟨Int.ediv_nonneg hlo.1 hy.1, Int.ediv_le_self _ hlo.1⟩
      rw [h4, tdiv_nonneg hlo.1, u64_id (by omega) (by omega)]
      simp
    · rw [h5, tmod_nonneg hlo.1]
      simp
  refine ⟨hy, fun v6 h6 v7 h7 v8 h8 => ?_⟩
  -- the shift
  obtain ⟨k, ek, k1, k2⟩ := lenF_spec (show 0 < y by omega)
  have bl := lenF_bound hy.1 64 (by omega)
  have hk : k ≤ 63 := by omega
  obtain ⟨s, hs⟩ : ∃ s : Nat, s + k = 63 := ⟨63 - k, by omega⟩
  have e8 : v8 = (s : Int) := by
    rw [h8, h7, h6, ek, i64_id (by omega) (by omega), u64_id (by omega) (by omega)]
    omega
  subst e8
  have hp0 : (0 : Int) < 2 ^ s := Int.pow_pos (by omega)
  have hpp : (2 : Int) ^ s * 2 ^ (64 - s) = 18446744073709551616 := by
    rw [← Int.pow_add, show s + (64 - s) = 64 by omega]; rfl
  have hpk : (2 : Int) ^ s * 2 ^ k = 9223372036854775808 := by
    rw [← Int.pow_add, show s + k = 63 by omega]; rfl
  have hpk1 : (2 : Int) ^ s * 2 ^ (k + 1) = 18446744073709551616 := by
    rw [← Int.pow_add, show s + (k + 1) = 64 by omega]; rfl
  have hY1 : 9223372036854775808 ≤ y * 2 ^ s := by
    rw [← hpk, Int.mul_comm]; exact Int.mul_le_mul_of_nonneg_right k1 (by omega)
  have hY2 : y * 2 ^ s < 18446744073709551616 := by
    rw [← hpk1, Int.mul_comm y]; exact Int.mul_lt_mul_of_pos_left k2 hp0
  have hpp0 : (0 : Int) < 2 ^ (64 - s) := Int.pow_pos (by omega)
  have hs64 : s ≤ 64 := by omega
  refine ⟨by simp, fun v9 h9 => ?_⟩
  rw [shl_eq .u64 y s hs64, u64_id (by omega) (by omega)] at h9
  intro v10 h10 v11 h11
  rw [shrN .u64 _ 32 _ 4294967296] at h10
  rw [and_low_u64 (by unfold U64; omega) 32 _ 4294967296] at h11
  refine ⟨by simp, fun v12 h12 v13 h13 => ?_⟩
  have hhp : hi * 2 ^ s ≤ y * 2 ^ s - 2 ^ s := by
    have := Int.mul_le_mul_of_nonneg_right (show hi ≤ y - 1 by omega) (Int.le_of_lt hp0)
    rw [Int.sub_mul] at this; omega
  have hhp0 : 0 ≤ hi * 2 ^ s := Int.mul_nonneg hhi.1 (by omega)
  rw [shl_eq .u64 hi s hs64, u64_id (by omega) (by omega)] at h12
  have e13 : v13 = ((64 - s : Nat) : Int) := by rw [h13, u64_id (by omega) (by omega)]; omega
  subst e13
  refine ⟨by simp <;> omega, fun v14 h14 v15 h15 => ⟨by simp, fun v16 h16 v17 h17 v18 h18 => ?_⟩⟩
  rw [shr_eq .u64 lo (64 - s) (by simp only [IntKind.bits]; omega)] at h14
  have b14 : 0 ≤ v14 ∧ v14 < 2 ^ s := by
    rw [h14]
    refine ⟨Int.ediv_nonneg hlo.1 (by omega), Int.ediv_lt_of_lt_mul hpp0 ?_⟩
    rw [hpp]; omega
  have e15 : v15 = hi * 2 ^ s + v14 := by
    rw [h15, h12, or_parts_u64 hhi.1 b14.1 b14.2 (by omega) (by omega) (by omega)]
  rw [shl_eq .u64 lo s hs64, w_u64] at h16
  have e16 : lo * 2 ^ s = v14 * 18446744073709551616 + v16 := by
    have a := Int.emod_add_mul_ediv (lo * 2 ^ s) 18446744073709551616
    have b : lo * 2 ^ s / 18446744073709551616 = lo / 2 ^ (64 - s) := by
      rw [← hpp, Int.mul_comm lo, Int.mul_ediv_mul_of_pos _ _ hp0]
    rw [b, ← h14, ← h16] at a
    omega
  have b16 : 0 ≤ v16 ∧ v16 < 18446744073709551616 := by
    rw [h16]; exact ⟨Int.emod_nonneg _ (by omega), Int.emod_lt_of_pos _ (by omega)⟩
  rw [shrN .u64 _ 32 _ 4294967296] at h17
  rw [and_low_u64 (by unfold U64; omega) 32 _ 4294967296] at h18
  have hYd : v10 * 4294967296 + v11 = v9 := by omega
  have hd1 : 2147483648 ≤ v10 ∧ v10 ≤ 4294967295 := by omega
  have hd0 : 0 ≤ v11 ∧ v11 ≤ 4294967295 := by omega
  have b15 : 0 ≤ v15 ∧ v15 < v9 := by omega
  have b17 : 0 ≤ v17 ∧ v17 ≤ 4294967295 := by omega
  have b18 : 0 ≤ v18 ∧ v18 ≤ 4294967295 := by omega
  have eT : (hi * 18446744073709551616 + lo) * 2 ^ s = (v15 * 4294967296 + v17) * 4294967296 + v18 := by
    have : (hi * 18446744073709551616 + lo) * 2 ^ s = (hi * 2 ^ s) * 18446744073709551616 + lo * 2 ^ s := by grind
    rw [this, e16]
    omega
  have hv9 : v9 = y * 2 ^ s := h9
  -- the first digit
  have start := knuth_start hd1.1 hd1.2 hd0.1 hd0.2 b17.1 b17.2 b15.1 (by omega)
  have start' := start
  obtain ⟨s1, s2, s3, s4, s5, s6⟩ := start'
  have s7 := Int.mul_nonneg s2 (show 0 ≤ v10 by omega)
  refine ⟨by simp <;> omega, fun v19 h19 v20 h20 v21 h21 => ⟨⟨?_, ?_⟩, ?_⟩⟩
  · rw [tdiv_nonneg b15.1, u64_id (by omega) (by omega)] at h19
    rw [h19, u64_id (by omega) (by omega)] at h20
    rw [h20, u64_id (by omega) (by omega)] at h21
    exact ⟨(v19, v21), by rw [h19, h21]; exact start, by simp⟩
  · intro v23 hR
    exact knuth_round hd1.1 hd1.2 hd0.1 hd0.2 b17.1 b17.2 (by omega) hR
      (fun a b e => ⟨_, rfl, by simp [e]⟩) (fun a b hk hl => ⟨(a, b), hk, by simp, hl⟩) (fun e => ⟨_, rfl, by simp [e]⟩)
      (fun a b e => ⟨_, rfl, by simp [e]⟩) (fun a b hk hl => ⟨(a, b), hk, by simp, hl⟩)
  intro v40 h40 v41 h41 v42 h42 v43 h43 v44 h44
  rw [hYd] at h40
  have d40 := Int.emod_add_mul_ediv (v15 * 4294967296 + v17) v9
  have m40 := Int.emod_nonneg (v15 * 4294967296 + v17) (show v9 ≠ 0 by omega)
  have l40 := Int.emod_lt_of_pos (v15 * 4294967296 + v17) (show 0 < v9 by omega)
  rw [← h40] at d40
  have p40 : 0 ≤ v40 := by rw [h40]; exact Int.ediv_nonneg (by omega) (by omega)
  have u40 : v40 ≤ 4294967295 := by
    have : v40 < 4294967296 := by rw [h40]; exact Int.ediv_lt_of_lt_mul (by omega) (by omega)
    omega
  have e44 : v44 = (v15 * 4294967296 + v17) % v9 := by
    rw [w_u64] at h41 h42 h43 h44
    rw [Int.mul_comm v9] at d40
    omega
  have b44 : 0 ≤ v44 ∧ v44 < v9 := by omega
  rw [← e44] at d40
  -- the second digit
  have start2 := knuth_start (n := v18) hd1.1 hd1.2 hd0.1 hd0.2 b18.1 b18.2 b44.1 (by omega)
  have start2' := start2
  obtain ⟨t1, t2, t3, t4, t5, t6⟩ := start2'
  have t7 := Int.mul_nonneg t2 (show 0 ≤ v10 by omega)
  refine ⟨by simp <;> omega, fun v45 h45 v46 h46 v47 h47 => ⟨⟨?_, ?_⟩, ?_⟩⟩
  · rw [tdiv_nonneg b44.1, u64_id (by omega) (by omega)] at h45
    rw [h45, u64_id (by omega) (by omega)] at h46
    rw [h46, u64_id (by omega) (by omega)] at h47
    exact ⟨(v45, v47), by rw [h45, h47]; exact start2, by simp⟩
  · intro v49 hR
    exact knuth_round hd1.1 hd1.2 hd0.1 hd0.2 b18.1 b18.2 (by omega) hR
      (fun a b e => ⟨_, rfl, by simp [e]⟩) (fun a b hk hl => ⟨(a, b), hk, by simp, hl⟩) (fun e => ⟨_, rfl, by simp [e]⟩)
      (fun a b e => ⟨_, rfl, by simp [e]⟩) (fun a b hk hl => ⟨(a, b), hk, by simp, hl⟩)
  intro v66 h66 v67 h67 v68 h68 v69 h69 v70 h70 v71 h71 v72 h72
  rw [hYd] at h66
  have d66 := Int.emod_add_mul_ediv (v44 * 4294967296 + v18) v9
  have m66 := Int.emod_nonneg (v44 * 4294967296 + v18) (show v9 ≠ 0 by omega)
  have l66 := Int.emod_lt_of_pos (v44 * 4294967296 + v18) (show 0 < v9 by omega)
  rw [← h66] at d66
  have p66 : 0 ≤ v66 := by rw [h66]; exact Int.ediv_nonneg (by omega) (by omega)
  have u66 : v66 ≤ 4294967295 := by
    have : v66 < 4294967296 := by rw [h66]; exact Int.ediv_lt_of_lt_mul (by omega) (by omega)
    omega
  have e72 : v72 = (v44 * 4294967296 + v18) % v9 := by
    rw [w_u64] at h69 h70 h71 h72
    rw [Int.mul_comm v9] at d66
    omega
  rw [← e72] at d66 m66 l66
  have e68 : v68 = v40 * 4294967296 + v66 := by
    rw [u64_id (by omega) (by omega)] at h67
    rw [u64_id (by omega) (by omega)] at h68
    omega
  refine ⟨by simp, fun v73 h73 => ?_⟩
  rw [shr_eq .u64 v72 s hs64] at h73
  -- together
  have tot : v72 = (hi * 18446744073709551616 + lo - v68 * y) * 2 ^ s := by
    have a : (v15 * 4294967296 + v17) * 4294967296 + v18 = v68 * v9 + v72 := by
      rw [e68, ← d40]
      grind
    rw [Int.sub_mul, eT, a, hv9]
    grind
  have e73 : v73 = hi * 18446744073709551616 + lo - v68 * y := by
    rw [h73, tot, Int.mul_ediv_cancel _ (by omega)]
  have low : 0 ≤ v73 := by rw [h73]; exact Int.ediv_nonneg m66 (by omega)
  have up : v73 < y := by
    rw [h73]
    exact Int.ediv_lt_of_lt_mul hp0 (by omega)
  have quo : v68 = (hi * 18446744073709551616 + lo) / y := by
    refine quo_eq (by omega) (by omega) ?_
    rw [Int.add_mul]; omega
  have rem : v73 = (hi * 18446744073709551616 + lo) % y := by
    have := Int.emod_add_mul_ediv (hi * 18446744073709551616 + lo) y
    rw [← quo, Int.mul_comm y] at this
    omega
  exact ⟨⟨rfl, quo⟩, ⟨rfl, rem⟩, trivial⟩
theorem div64_ok : SpecOk Try.prog 36 div64Spec := by
  intro args k h
  unfold div64Spec at h
  split at h
  · rename_i hi lo y
    obtain ⟨hr, h⟩ := h
    exact ⟨_, h _ rfl _ rfl, PureOk.of_tie (GL Try.prog lensSpec divAnnSpec divCutSpec) (fun w__ => gokL w__ namesOk_ mixed_ lens_ok) (fun _ => rfl) (fun _ => rfl) (args' := [.int .u64 (.sym hi.val), .int .u64 (.sym lo.val), .int .u64 (.sym y.val)]) ⟨⟨rfl, rfl⟩, ⟨rfl, rfl⟩, ⟨rfl, rfl⟩, trivial⟩ 20 (fun w__ => VCDiv64 hi.val lo.val y.val) (fun w__ => tieDiv64 w__ hi.val lo.val y.val) (fun w__ => pureDiv64 hi.val lo.val y.val hr)⟩
  · exact h.elim

end Go.Proofs.Ytbocopfieadgoaa.Bits
