import Derived.Test.YtbocopfieadgoaaSxR
import Derived.Test.YtbocopfieadgoaaProg
import Derived.KernelRfl
namespace Go.Proofs.Ytbocopfieadgoaa.Bits
open Go Go.Sx Go.RowKit
set_option linter.unusedVariables false
set_option maxRecDepth 100000
theorem namesOk_ : namesOk Try.prog = true := by kernel_rfl
theorem mixed_ : Try.prog.follows .mixedOrders = true := by kernel_rfl
def mul64Spec : CSpec
  | [.int .u64 x, .int .u64 y], k => ((U64 x.val) ∧ (U64 y.val)) ∧ (∀ r0 : Int, r0 = (x.val * y.val / 18446744073709551616) → ∀ r1 : Int, r1 = (x.val * y.val % 18446744073709551616) → k (.tup [.int .u64 (.sym r0), .int .u64 (.sym r1)]))
  | _, _ => False
def VCMul64 (x : Int) (y : Int) : Prop :=
  ∀ v1, v1 = bitI BinOp.and IntKind.u64 x (4294967295 : Int) -> ∀ v2, v2 = shrI IntKind.u64 x (32 : Int) -> ∀ v3, v3 = bitI BinOp.and IntKind.u64 y (4294967295 : Int) -> ∀ v4, v4 = shrI IntKind.u64 y (32 : Int) -> ∀ v5, v5 = IntKind.u64.wrap (v1 * v3) -> ∀ v6, v6 = IntKind.u64.wrap (v2 * v3) -> ∀ v7, v7 = shrI IntKind.u64 v5 (32 : Int) -> ∀ v8, v8 = IntKind.u64.wrap (v6 + v7) -> ∀ v9, v9 = bitI BinOp.and IntKind.u64 v8 (4294967295 : Int) -> ∀ v10, v10 = shrI IntKind.u64 v8 (32 : Int) -> ∀ v11, v11 = IntKind.u64.wrap (v1 * v4) -> ∀ v12, v12 = IntKind.u64.wrap (v9 + v11) -> ∀ v13, v13 = IntKind.u64.wrap (v2 * v4) -> ∀ v14, v14 = IntKind.u64.wrap (v13 + v10) -> ∀ v15, v15 = shrI IntKind.u64 v12 (32 : Int) -> ∀ v16, v16 = IntKind.u64.wrap (v14 + v15) -> ∀ v17, v17 = IntKind.u64.wrap (x * y) -> (IntKind.u64 = IntKind.u64 /\ v16 = x * y / (18446744073709551616 : Int)) /\ (IntKind.u64 = IntKind.u64 /\ v17 = x * y % (18446744073709551616 : Int)) /\ True
theorem tieMul64 (w0 : World) (x : Int) (y : Int) : VCMul64 x y = ((recN (GC Try.prog [] w0) 20).call 35 [.int .u64 (.sym x), .int .u64 (.sym y)] [] (fun r__ _ => eqV r__ (.tup [.int .u64 (.sym (x * y / 18446744073709551616)), .int .u64 (.sym (x * y % 18446744073709551616))]))) := by kernel_rfl
theorem pureMul64 (x y : Int) (h : U64 x ∧ U64 y) : VCMul64 x y := by
  obtain ⟨hx, hy⟩ := h
  have hx' := hx
  have hy' := hy
  unfold U64 at hx' hy'
  intro v1 h1 v2 h2 v3 h3 v4 h4 v5 h5 v6 h6 v7 h7 v8 h8 v9 h9 v10 h10 v11 h11 v12 h12 v13 h13 v14 h14 v15 h15 v16 h16 v17 h17
  rw [and_low_u64 hx 32 _ 4294967296] at h1
  rw [and_low_u64 hy 32 _ 4294967296] at h3
  rw [shrN .u64 _ 32 _ 4294967296] at h2 h4 h7 h10 h15
  have b1 : 0 ≤ v1 ∧ v1 ≤ 4294967295 := by omega
  have b2 : 0 ≤ v2 ∧ v2 ≤ 4294967295 := by omega
  have b3 : 0 ≤ v3 ∧ v3 ≤ 4294967295 := by omega
  have b4 : 0 ≤ v4 ∧ v4 ≤ 4294967295 := by omega
  have ex : x = v2 * 4294967296 + v1 := by omega
  have ey : y = v4 * 4294967296 + v3 := by omega
  obtain ⟨a1, a2⟩ := mul_in b1.1 b1.2 b3.1 b3.2
  obtain ⟨c1, c2⟩ := mul_in b2.1 b2.2 b3.1 b3.2
  obtain ⟨d1, d2⟩ := mul_in b1.1 b1.2 b4.1 b4.2
  obtain ⟨e1, e2⟩ := mul_in b2.1 b2.2 b4.1 b4.2
  have exy : x * y = v2 * v4 * 18446744073709551616 + (v2 * v3 + v1 * v4) * 4294967296 + v1 * v3 := by
    rw [ex, ey]; grind
  generalize v1 * v3 = A at *
  generalize v2 * v3 = B at *
  generalize v1 * v4 = C at *
  generalize v2 * v4 = D at *
  rw [u64_id (by omega) (by omega)] at h5
  rw [u64_id (by omega) (by omega)] at h6
  rw [u64_id (by omega) (by omega)] at h8
  rw [and_low_u64 (by unfold U64; omega) 32 _ 4294967296] at h9
  rw [u64_id (by omega) (by omega)] at h11
  rw [u64_id (by omega) (by omega)] at h12
  rw [u64_id (by omega) (by omega)] at h13
  rw [w_u64, exy] at h17
  have lo : 0 ≤ D * 18446744073709551616 + (B + C) * 4294967296 + A := by omega
  clear hx hy hx' hy' h1 h2 h3 h4 b1 b2 b3 b4 ex ey
  have k : D * 18446744073709551616 + (B + C) * 4294967296 + A = (D + v10 + v15) * 18446744073709551616 + (v12 % 4294967296 * 4294967296 + A % 4294967296) := by omega
  have hup : D * 18446744073709551616 + (B + C) * 4294967296 + A < 340282366920938463463374607431768211456 := by omega
  rw [u64_id (by omega) (by omega)] at h14
  rw [u64_id (by omega) (by omega)] at h16
  refine ⟨⟨rfl, ?_⟩, ⟨rfl, ?_⟩, trivial⟩
  · rw [exy, k]; omega
  · rw [h17, exy]
theorem mul64_ok : SpecOk Try.prog 35 mul64Spec := by
  intro args k h
  unfold mul64Spec at h
  split at h
  · rename_i x y
    obtain ⟨hr, h⟩ := h
    exact ⟨_, h _ rfl _ rfl, PureOk.of_tie (GC Try.prog []) (fun w__ => gok w__ namesOk_ mixed_ trivial) (fun _ => rfl) (fun _ => rfl) (args' := [.int .u64 (.sym x.val), .int .u64 (.sym y.val)]) ⟨⟨rfl, rfl⟩, ⟨rfl, rfl⟩, trivial⟩ 20 (fun w__ => VCMul64 x.val y.val) (fun w__ => tieMul64 w__ x.val y.val) (fun w__ => pureMul64 x.val y.val hr)⟩
  · exact h.elim


def len64Spec : CSpec
  | [.int .u64 x], k => ((U64 x.val)) ∧ (∀ r0 : Int, r0 = (lenF x.val) → k (.int .i64 (.sym r0)))
  | _, _ => False
def VCLen64 (x : Int) : Prop :=
  ∀ v1, v1 = decide (x ≥ (4294967296 : Int)) -> (v1 = true -> ∀ v2, v2 = shrI IntKind.u64 x (32 : Int) -> ∀ v3, v3 = decide (v2 ≥ (65536 : Int)) -> (v3 = true -> ∀ v4, v4 = shrI IntKind.u64 v2 (16 : Int) -> ∀ v5, v5 = decide (v4 ≥ (256 : Int)) -> (v5 = true -> ∀ v6, v6 = shrI IntKind.u64 v4 (8 : Int) -> ∀ v7, v7 = IntKind.u8.wrap v6 -> ((0 : Int) ≤ v7 /\ v7 < (256 : Int)) /\ ∀ v8, v8 = byteAt (bytesL [0, 1, 2, 2, 3, 3, 3, 3, 4, 4, 4, 4, 4, 4, 4, 4, 5, 5, 5, 5, 5, 5, 5, 5, 5, 5, 5, 5, 5, 5, 5, 5, 6, 6, 6, 6, 6, 6, 6, 6, 6, 6, 6, 6, 6, 6, 6, 6, 6, 6, 6, 6, 6, 6, 6, 6, 6, 6, 6, 6, 6, 6, 6, 6, 7, 7, 7, 7, 7, 7, 7, 7, 7, 7, 7, 7, 7, 7, 7, 7, 7, 7, 7, 7, 7, 7, 7, 7, 7, 7, 7, 7, 7, 7, 7, 7, 7, 7, 7, 7, 7, 7, 7, 7, 7, 7, 7, 7, 7, 7, 7, 7, 7, 7, 7, 7, 7, 7, 7, 7, 7, 7, 7, 7, 7, 7, 7, 7, 8, 8, 8, 8, 8, 8, 8, 8, 8, 8, 8, 8, 8, 8, 8, 8, 8, 8, 8, 8, 8, 8, 8, 8, 8, 8, 8, 8, 8, 8, 8, 8, 8, 8, 8, 8, 8, 8, 8, 8, 8, 8, 8, 8, 8, 8, 8, 8, 8, 8, 8, 8, 8, 8, 8, 8, 8, 8, 8, 8, 8, 8, 8, 8, 8, 8, 8, 8, 8, 8, 8, 8, 8, 8, 8, 8, 8, 8, 8, 8, 8, 8, 8, 8, 8, 8, 8, 8, 8, 8, 8, 8, 8, 8, 8, 8, 8, 8, 8, 8, 8, 8, 8, 8, 8, 8, 8, 8, 8, 8, 8, 8, 8, 8, 8, 8, 8, 8, 8, 8, 8, 8, 8, 8, 8, 8, 8, 8]) v7 -> ∀ v9, v9 = IntKind.i64.wrap v8 -> ∀ v10, v10 = IntKind.i64.wrap ((56 : Int) + v9) -> IntKind.i64 = IntKind.i64 /\ v10 = lenF x) /\ (v5 = false -> ∀ v11, v11 = IntKind.u8.wrap v4 -> ((0 : Int) ≤ v11 /\ v11 < (256 : Int)) /\ ∀ v12, v12 = byteAt (bytesL [0, 1, 2, 2, 3, 3, 3, 3, 4, 4, 4, 4, 4, 4, 4, 4, 5, 5, 5, 5, 5, 5, 5, 5, 5, 5, 5, 5, 5, 5, 5, 5, 6, 6, 6, 6, 6, 6, 6, 6, 6, 6, 6, 6, 6, 6, 6, 6, 6, 6, 6, 6, 6, 6, 6, 6, 6, 6, 6, 6, 6, 6, 6, 6, 7, 7, 7, 7, 7, 7, 7, 7, 7, 7, 7, 7, 7, 7, 7, 7, 7, 7, 7, 7, 7, 7, 7, 7, 7, 7, 7, 7, 7, 7, 7, 7, 7, 7, 7, 7, 7, 7, 7, 7, 7, 7, 7, 7, 7, 7, 7, 7, 7, 7, 7, 7, 7, 7, 7, 7, 7, 7, 7, 7, 7, 7, 7, 7, 8, 8, 8, 8, 8, 8, 8, 8, 8, 8, 8, 8, 8, 8, 8, 8, 8, 8, 8, 8, 8, 8, 8, 8, 8, 8, 8, 8, 8, 8, 8, 8, 8, 8, 8, 8, 8, 8, 8, 8, 8, 8, 8, 8, 8, 8, 8, 8, 8, 8, 8, 8, 8, 8, 8, 8, 8, 8, 8, 8, 8, 8, 8, 8, 8, 8, 8, 8, 8, 8, 8, 8, 8, 8, 8, 8, 8, 8, 8, 8, 8, 8, 8, 8, 8, 8, 8, 8, 8, 8, 8, 8, 8, 8, 8, 8, 8, 8, 8, 8, 8, 8, 8, 8, 8, 8, 8, 8, 8, 8, 8, 8, 8, 8, 8, 8, 8, 8, 8, 8, 8, 8, 8, 8, 8, 8, 8, 8]) v11 -> ∀ v13, v13 = IntKind.i64.wrap v12 -> ∀ v14, v14 = IntKind.i64.wrap ((48 : Int) + v13) -> IntKind.i64 = IntKind.i64 /\ v14 = lenF x)) /\ (v3 = false -> ∀ v15, v15 = decide (v2 ≥ (256 : Int)) -> (v15 = true -> ∀ v16, v16 = shrI IntKind.u64 v2 (8 : Int) -> ∀ v17, v17 = IntKind.u8.wrap v16 -> ((0 : Int) ≤ v17 /\ v17 < (256 : Int)) /\ ∀ v18, v18 = byteAt (bytesL [0, 1, 2, 2, 3, 3, 3, 3, 4, 4, 4, 4, 4, 4, 4, 4, 5, 5, 5, 5, 5, 5, 5, 5, 5, 5, 5, 5, 5, 5, 5, 5, 6, 6, 6, 6, 6, 6, 6, 6, 6, 6, 6, 6, 6, 6, 6, 6, 6, 6, 6, 6, 6, 6, 6, 6, 6, 6, 6, 6, 6, 6, 6, 6, 7, 7, 7, 7, 7, 7, 7, 7, 7, 7, 7, 7, 7, 7, 7, 7, 7, 7, 7, 7, 7, 7, 7, 7, 7, 7, 7, 7, 7, 7, 7, 7, 7, 7, 7, 7, 7, 7, 7, 7, 7, 7, 7, 7, 7, 7, 7, 7, 7, 7, 7, 7, 7, 7, 7, 7, 7, 7, 7, 7, 7, 7, 7, 7, 8, 8, 8, 8, 8, 8, 8, 8, 8, 8, 8, 8, 8, 8, 8, 8, 8, 8, 8, 8, 8, 8, 8, 8, 8, 8, 8, 8, 8, 8, 8, 8, 8, 8, 8, 8, 8, 8, 8, 8, 8, 8, 8, 8, 8, 8, 8, 8, 8, 8, 8, 8, 8, 8, 8, 8, 8, 8, 8, 8, 8, 8, 8, 8, 8, 8, 8, 8, 8, 8, 8, 8, 8, 8, 8, 8, 8, 8, 8, 8, 8, 8, 8, 8, 8, 8, 8, 8, 8, 8, 8, 8, 8, 8, 8, 8, 8, 8, 8, 8, 8, 8, 8, 8, 8, 8, 8, 8, 8, 8, 8, 8, 8, 8, 8, 8, 8, 8, 8, 8, 8, 8, 8, 8, 8, 8, 8, 8]) v17 -> ∀ v19, v19 = IntKind.i64.wrap v18 -> ∀ v20, v20 = IntKind.i64.wrap ((40 : Int) + v19) -> IntKind.i64 = IntKind.i64 /\ v20 = lenF x) /\ (v15 = false -> ∀ v21, v21 = IntKind.u8.wrap v2 -> ((0 : Int) ≤ v21 /\ v21 < (256 : Int)) /\ ∀ v22, v22 = byteAt (bytesL [0, 1, 2, 2, 3, 3, 3, 3, 4, 4, 4, 4, 4, 4, 4, 4, 5, 5, 5, 5, 5, 5, 5, 5, 5, 5, 5, 5, 5, 5, 5, 5, 6, 6, 6, 6, 6, 6, 6, 6, 6, 6, 6, 6, 6, 6, 6, 6, 6, 6, 6, 6, 6, 6, 6, 6, 6, 6, 6, 6, 6, 6, 6, 6, 7, 7, 7, 7, 7, 7, 7, 7, 7, 7, 7, 7, 7, 7, 7, 7, 7, 7, 7, 7, 7, 7, 7, 7, 7, 7, 7, 7, 7, 7, 7, 7, 7, 7, 7, 7, 7, 7, 7, 7, 7, 7, 7, 7, 7, 7, 7, 7, 7, 7, 7, 7, 7, 7, 7, 7, 7, 7, 7, 7, 7, 7, 7, 7, 8, 8, 8, 8, 8, 8, 8, 8, 8, 8, 8, 8, 8, 8, 8, 8, 8, 8, 8, 8, 8, 8, 8, 8, 8, 8, 8, 8, 8, 8, 8, 8, 8, 8, 8, 8, 8, 8, 8, 8, 8, 8, 8, 8, 8, 8, 8, 8, 8, 8, 8, 8, 8, 8, 8, 8, 8, 8, 8, 8, 8, 8, 8, 8, 8, 8, 8, 8, 8, 8, 8, 8, 8, 8, 8, 8, 8, 8, 8, 8, 8, 8, 8, 8, 8, 8, 8, 8, 8, 8, 8, 8, 8, 8, 8, 8, 8, 8, 8, 8, 8, 8, 8, 8, 8, 8, 8, 8, 8, 8, 8, 8, 8, 8, 8, 8, 8, 8, 8, 8, 8, 8, 8, 8, 8, 8, 8, 8]) v21 -> ∀ v23, v23 = IntKind.i64.wrap v22 -> ∀ v24, v24 = IntKind.i64.wrap ((32 : Int) + v23) -> IntKind.i64 = IntKind.i64 /\ v24 = lenF x))) /\ (v1 = false -> ∀ v25, v25 = decide (x ≥ (65536 : Int)) -> (v25 = true -> ∀ v26, v26 = shrI IntKind.u64 x (16 : Int) -> ∀ v27, v27 = decide (v26 ≥ (256 : Int)) -> (v27 = true -> ∀ v28, v28 = shrI IntKind.u64 v26 (8 : Int) -> ∀ v29, v29 = IntKind.u8.wrap v28 -> ((0 : Int) ≤ v29 /\ v29 < (256 : Int)) /\ ∀ v30, v30 = byteAt (bytesL [0, 1, 2, 2, 3, 3, 3, 3, 4, 4, 4, 4, 4, 4, 4, 4, 5, 5, 5, 5, 5, 5, 5, 5, 5, 5, 5, 5, 5, 5, 5, 5, 6, 6, 6, 6, 6, 6, 6, 6, 6, 6, 6, 6, 6, 6, 6, 6, 6, 6, 6, 6, 6, 6, 6, 6, 6, 6, 6, 6, 6, 6, 6, 6, 7, 7, 7, 7, 7, 7, 7, 7, 7, 7, 7, 7, 7, 7, 7, 7, 7, 7, 7, 7, 7, 7, 7, 7, 7, 7, 7, 7, 7, 7, 7, 7, 7, 7, 7, 7, 7, 7, 7, 7, 7, 7, 7, 7, 7, 7, 7, 7, 7, 7, 7, 7, 7, 7, 7, 7, 7, 7, 7, 7, 7, 7, 7, 7, 8, 8, 8, 8, 8, 8, 8, 8, 8, 8, 8, 8, 8, 8, 8, 8, 8, 8, 8, 8, 8, 8, 8, 8, 8, 8, 8, 8, 8, 8, 8, 8, 8, 8, 8, 8, 8, 8, 8, 8, 8, 8, 8, 8, 8, 8, 8, 8, 8, 8, 8, 8, 8, 8, 8, 8, 8, 8, 8, 8, 8, 8, 8, 8, 8, 8, 8, 8, 8, 8, 8, 8, 8, 8, 8, 8, 8, 8, 8, 8, 8, 8, 8, 8, 8, 8, 8, 8, 8, 8, 8, 8, 8, 8, 8, 8, 8, 8, 8, 8, 8, 8, 8, 8, 8, 8, 8, 8, 8, 8, 8, 8, 8, 8, 8, 8, 8, 8, 8, 8, 8, 8, 8, 8, 8, 8, 8, 8]) v29 -> ∀ v31, v31 = IntKind.i64.wrap v30 -> ∀ v32, v32 = IntKind.i64.wrap ((24 : Int) + v31) -> IntKind.i64 = IntKind.i64 /\ v32 = lenF x) /\ (v27 = false -> ∀ v33, v33 = IntKind.u8.wrap v26 -> ((0 : Int) ≤ v33 /\ v33 < (256 : Int)) /\ ∀ v34, v34 = byteAt (bytesL [0, 1, 2, 2, 3, 3, 3, 3, 4, 4, 4, 4, 4, 4, 4, 4, 5, 5, 5, 5, 5, 5, 5, 5, 5, 5, 5, 5, 5, 5, 5, 5, 6, 6, 6, 6, 6, 6, 6, 6, 6, 6, 6, 6, 6, 6, 6, 6, 6, 6, 6, 6, 6, 6, 6, 6, 6, 6, 6, 6, 6, 6, 6, 6, 7, 7, 7, 7, 7, 7, 7, 7, 7, 7, 7, 7, 7, 7, 7, 7, 7, 7, 7, 7, 7, 7, 7, 7, 7, 7, 7, 7, 7, 7, 7, 7, 7, 7, 7, 7, 7, 7, 7, 7, 7, 7, 7, 7, 7, 7, 7, 7, 7, 7, 7, 7, 7, 7, 7, 7, 7, 7, 7, 7, 7, 7, 7, 7, 8, 8, 8, 8, 8, 8, 8, 8, 8, 8, 8, 8, 8, 8, 8, 8, 8, 8, 8, 8, 8, 8, 8, 8, 8, 8, 8, 8, 8, 8, 8, 8, 8, 8, 8, 8, 8, 8, 8, 8, 8, 8, 8, 8, 8, 8, 8, 8, 8, 8, 8, 8, 8, 8, 8, 8, 8, 8, 8, 8, 8, 8, 8, 8, 8, 8, 8, 8, 8, 8, 8, 8, 8, 8, 8, 8, 8, 8, 8, 8, 8, 8, 8, 8, 8, 8, 8, 8, 8, 8, 8, 8, 8, 8, 8, 8, 8, 8, 8, 8, 8, 8, 8, 8, 8, 8, 8, 8, 8, 8, 8, 8, 8, 8, 8, 8, 8, 8, 8, 8, 8, 8, 8, 8, 8, 8, 8, 8]) v33 -> ∀ v35, v35 = IntKind.i64.wrap v34 -> ∀ v36, v36 = IntKind.i64.wrap ((16 : Int) + v35) -> IntKind.i64 = IntKind.i64 /\ v36 = lenF x)) /\ (v25 = false -> ∀ v37, v37 = decide (x ≥ (256 : Int)) -> (v37 = true -> ∀ v38, v38 = shrI IntKind.u64 x (8 : Int) -> ∀ v39, v39 = IntKind.u8.wrap v38 -> ((0 : Int) ≤ v39 /\ v39 < (256 : Int)) /\ ∀ v40, v40 = byteAt (bytesL [0, 1, 2, 2, 3, 3, 3, 3, 4, 4, 4, 4, 4, 4, 4, 4, 5, 5, 5, 5, 5, 5, 5, 5, 5, 5, 5, 5, 5, 5, 5, 5, 6, 6, 6, 6, 6, 6, 6, 6, 6, 6, 6, 6, 6, 6, 6, 6, 6, 6, 6, 6, 6, 6, 6, 6, 6, 6, 6, 6, 6, 6, 6, 6, 7, 7, 7, 7, 7, 7, 7, 7, 7, 7, 7, 7, 7, 7, 7, 7, 7, 7, 7, 7, 7, 7, 7, 7, 7, 7, 7, 7, 7, 7, 7, 7, 7, 7, 7, 7, 7, 7, 7, 7, 7, 7, 7, 7, 7, 7, 7, 7, 7, 7, 7, 7, 7, 7, 7, 7, 7, 7, 7, 7, 7, 7, 7, 7, 8, 8, 8, 8, 8, 8, 8, 8, 8, 8, 8, 8, 8, 8, 8, 8, 8, 8, 8, 8, 8, 8, 8, 8, 8, 8, 8, 8, 8, 8, 8, 8, 8, 8, 8, 8, 8, 8, 8, 8, 8, 8, 8, 8, 8, 8, 8, 8, 8, 8, 8, 8, 8, 8, 8, 8, 8, 8, 8, 8, 8, 8, 8, 8, 8, 8, 8, 8, 8, 8, 8, 8, 8, 8, 8, 8, 8, 8, 8, 8, 8, 8, 8, 8, 8, 8, 8, 8, 8, 8, 8, 8, 8, 8, 8, 8, 8, 8, 8, 8, 8, 8, 8, 8, 8, 8, 8, 8, 8, 8, 8, 8, 8, 8, 8, 8, 8, 8, 8, 8, 8, 8, 8, 8, 8, 8, 8, 8]) v39 -> ∀ v41, v41 = IntKind.i64.wrap v40 -> ∀ v42, v42 = IntKind.i64.wrap ((8 : Int) + v41) -> IntKind.i64 = IntKind.i64 /\ v42 = lenF x) /\ (v37 = false -> ∀ v43, v43 = IntKind.u8.wrap x -> ((0 : Int) ≤ v43 /\ v43 < (256 : Int)) /\ ∀ v44, v44 = byteAt (bytesL [0, 1, 2, 2, 3, 3, 3, 3, 4, 4, 4, 4, 4, 4, 4, 4, 5, 5, 5, 5, 5, 5, 5, 5, 5, 5, 5, 5, 5, 5, 5, 5, 6, 6, 6, 6, 6, 6, 6, 6, 6, 6, 6, 6, 6, 6, 6, 6, 6, 6, 6, 6, 6, 6, 6, 6, 6, 6, 6, 6, 6, 6, 6, 6, 7, 7, 7, 7, 7, 7, 7, 7, 7, 7, 7, 7, 7, 7, 7, 7, 7, 7, 7, 7, 7, 7, 7, 7, 7, 7, 7, 7, 7, 7, 7, 7, 7, 7, 7, 7, 7, 7, 7, 7, 7, 7, 7, 7, 7, 7, 7, 7, 7, 7, 7, 7, 7, 7, 7, 7, 7, 7, 7, 7, 7, 7, 7, 7, 8, 8, 8, 8, 8, 8, 8, 8, 8, 8, 8, 8, 8, 8, 8, 8, 8, 8, 8, 8, 8, 8, 8, 8, 8, 8, 8, 8, 8, 8, 8, 8, 8, 8, 8, 8, 8, 8, 8, 8, 8, 8, 8, 8, 8, 8, 8, 8, 8, 8, 8, 8, 8, 8, 8, 8, 8, 8, 8, 8, 8, 8, 8, 8, 8, 8, 8, 8, 8, 8, 8, 8, 8, 8, 8, 8, 8, 8, 8, 8, 8, 8, 8, 8, 8, 8, 8, 8, 8, 8, 8, 8, 8, 8, 8, 8, 8, 8, 8, 8, 8, 8, 8, 8, 8, 8, 8, 8, 8, 8, 8, 8, 8, 8, 8, 8, 8, 8, 8, 8, 8, 8, 8, 8, 8, 8, 8, 8]) v43 -> ∀ v45, v45 = IntKind.i64.wrap v44 -> ∀ v46, v46 = IntKind.i64.wrap ((0 : Int) + v45) -> IntKind.i64 = IntKind.i64 /\ v46 = lenF x)))
theorem tieLen64 (w0 : World) (x : Int) : VCLen64 x = ((recN (GC Try.prog [] w0) 20).call 39 [.int .u64 (.sym x)] [] (fun r__ _ => eqV r__ (.int .i64 (.sym (lenF x))))) := by kernel_rfl
theorem pureLen64 (x : Int) (h : U64 x) : VCLen64 x := by
  unfold U64 at h
  have f32 : ∀ y, 4294967296 ≤ y → lenF y = 32 + lenF (y / 4294967296) := fun y h => lenF_div 32 4294967296 rfl h
  have f16 : ∀ y, 65536 ≤ y → lenF y = 16 + lenF (y / 65536) := fun y h => lenF_div 16 65536 rfl h
  have f8 : ∀ y, 256 ≤ y → lenF y = 8 + lenF (y / 256) := fun y h => lenF_div 8 256 rfl h
  refine br (fun e1 v2 h2 => ?_) fun e1 => ?_
  · rw [shrN .u64 _ 32 _ 4294967296] at h2
    have k1 := f32 x e1
    rw [← h2] at k1
    refine br (fun e3 v4 h4 => ?_) fun e3 => ?_
    · rw [shrN .u64 _ 16 _ 65536] at h4
      have k2 := f16 v2 e3
      rw [← h4] at k2
      refine br (fun e5 v6 h6 => ?_) fun e5 => ?_
      · rw [shrN .u64 _ 8 _ 256] at h6
        have k3 := f8 v4 e5
        rw [← h6] at k3
        exact lenTail (by omega) (by omega) (by omega) (by omega)
      · exact lenTail (by omega) (by omega) (by omega) (by omega)
    · refine br (fun e5 v6 h6 => ?_) fun e5 => ?_
      · rw [shrN .u64 _ 8 _ 256] at h6
        have k3 := f8 v2 e5
        rw [← h6] at k3
        exact lenTail (by omega) (by omega) (by omega) (by omega)
      · exact lenTail (by omega) (by omega) (by omega) (by omega)
  · refine br (fun e3 v4 h4 => ?_) fun e3 => ?_
    · rw [shrN .u64 _ 16 _ 65536] at h4
      have k2 := f16 x e3
      rw [← h4] at k2
      refine br (fun e5 v6 h6 => ?_) fun e5 => ?_
      · rw [shrN .u64 _ 8 _ 256] at h6
        have k3 := f8 v4 e5
        rw [← h6] at k3
        exact lenTail (by omega) (by omega) (by omega) (by omega)
      · exact lenTail (by omega) (by omega) (by omega) (by omega)
    · refine br (fun e5 v6 h6 => ?_) fun e5 => ?_
      · rw [shrN .u64 _ 8 _ 256] at h6
        have k3 := f8 x e5
        rw [← h6] at k3
        exact lenTail (by omega) (by omega) (by omega) (by omega)
      · exact lenTail (by omega) (by omega) (by omega) (by omega)
theorem len64_ok : SpecOk Try.prog 39 len64Spec := by
  intro args k h
  unfold len64Spec at h
  split at h
  · rename_i x
    obtain ⟨hr, h⟩ := h
    exact ⟨_, h _ rfl, PureOk.of_tie (GC Try.prog []) (fun w__ => gok w__ namesOk_ mixed_ trivial) (fun _ => rfl) (fun _ => rfl) (args' := [.int .u64 (.sym x.val)]) ⟨⟨rfl, rfl⟩, trivial⟩ 20 (fun w__ => VCLen64 x.val) (fun w__ => tieLen64 w__ x.val) (fun w__ => pureLen64 x.val hr)⟩
  · exact h.elim

end Go.Proofs.Ytbocopfieadgoaa.Bits
