import Derived.Test.YtifbolmkiafmgaaSxR
import Derived.Test.YtifbolmkiafmgaaSxU
import Derived.Test.YtifbolmkiafmgaaProg
import Derived.Test.YtifbolmkiafmgaaB
import Derived.KernelRfl
namespace Go.Proofs.Ytifbolmkiafmgaa.A
open Go Go.Sx Go.RowKit
set_option linter.unusedVariables false
set_option maxRecDepth 100000
def numsSpec : List (FuncId × CSpec) := [(9, numSpec), (10, rNumSpec)]
theorem nums_ok : SpecsOk Try.prog numsSpec := ⟨num_ok, rNum_ok, trivial⟩
def slBSpec (S : St) (t : Nat) : Nat := match nth S.ts t with | .slice b _ _ _ => b | .fsl b _ _ => b | _ => 0
def slCapSpec (S : St) (t : Nat) : SN := match nth S.ts t with | .slice _ _ _ c => c | .fsl _ _ c => c | _ => .lit 0
def slAtSpec (S : St) (t j : Nat) : Int → Int := match nth S.ts t with
  | .bsl _ _ _ fs => (match fnth fs j with | some (.int _ f) => f | _ => fun _ => 0)
  | .fsl b _ _ => fat S b j
  | _ => fun _ => 0
def clkF (f : Int → Int) : Int → Int := fun j => f j % 17179869184 - 8589934592
def clkN (s o : Int) : Int → Int := fun j => numF s (o + j) % 17179869184 - 8589934592
def clkASpec : St → Inv := fun S =>
  { ι := Int × (Int → Int)
    T := fun q => stS (keepS (setF S (slBSpec S 3) q.1 [.int .i64 q.2]) [6, 7]) [(3, .fsl (slBSpec S 3) q.1 (slCapSpec S 3)), (8, .int .i64 (.sym q.1))]
    R := fun q => (1 ≤ q.1 ∧ q.1 ≤ iat S 7) ∧ ∀ j, 0 ≤ j → j < q.1 → q.2 j = clkF (slAtSpec S 6 0) j
    μ := fun q => (iat S 7 - q.1).toNat }
def rclk1ASpec : St → Inv := fun S =>
  { ι := Int × (Int → Int)
    T := fun q => stS (keepS (setF S (slBSpec S 4) q.1 [.int .i64 q.2]) [0, 5]) [(4, .fsl (slBSpec S 4) q.1 (slCapSpec S 4)), (6, .int .i64 (.sym q.1))]
    R := fun q => (1 ≤ q.1 ∧ q.1 ≤ 1 + numF (iat S 0) 1 % 3) ∧ ∀ j, 0 ≤ j → j < q.1 → q.2 j = clkN (iat S 0) 3 j
    μ := fun q => (3 - q.1).toNat }
def rclk2ASpec : St → Inv := fun S =>
  { ι := Int × (Int → Int)
    T := fun q => stS (keepS (setF S (slBSpec S 5) q.1 [.int .i64 q.2]) [0, 4]) [(5, .fsl (slBSpec S 5) q.1 (slCapSpec S 5)), (7, .int .i64 (.sym q.1))]
    R := fun q => (1 ≤ q.1 ∧ q.1 ≤ 1 + numF (iat S 0) 2 % 2) ∧ ∀ j, 0 ≤ j → j < q.1 → q.2 j = clkN (iat S 0) 10 j
    μ := fun q => (2 - q.1).toNat }
def clkAnnSpec : Anns := [(20, 0, clkASpec), (6, 0, rclk1ASpec), (6, 2, rclk2ASpec)]
def clkPeelSpec : List (FuncId × Nat) := [(20, 0), (6, 0), (6, 2)]
--@PLAIN
theorem clk_of {x a b c : Int} (hx : U64 x) (ha : a = x.tmod 17179869184) (hb : b = IntKind.i64.wrap a) (hc : c = IntKind.i64.wrap (b - 8589934592)) : c = x % 17179869184 - 8589934592 := by
  unfold U64 at hx
  rw [tmod_nonneg hx.1] at ha
  rw [i64_id (by omega) (by omega)] at hb
  rw [i64_id (by omega) (by omega)] at hc
  omega
theorem upd_ok {α : Type} {g F : Int → α} {i : Int} {v : α} (h : ∀ j, 0 ≤ j → j < i → g j = F j) (hv : v = F i) : ∀ j, 0 ≤ j → j < i + 1 → updF g i v j = F j := by
  intro j a b
  unfold updF
  split
  · rename_i e; rw [e]; exact hv
  · exact h j a (by omega)
theorem cnt_of {x a b c m : Int} (hx : U64 x) (hm : 0 < m) (hm2 : m ≤ 100) (ha : a = x.tmod m) (hb : b = IntKind.i64.wrap a) (hc : c = IntKind.i64.wrap (1 + b)) : c = 1 + x % m ∧ 0 ≤ x % m ∧ x % m < m := by
  unfold U64 at hx
  rw [tmod_nonneg hx.1] at ha
  have := Int.emod_nonneg x (show m ≠ 0 by omega)
  have := Int.emod_lt_of_pos x hm
  rw [i64_id (by omega) (by omega)] at hb
  rw [i64_id (by omega) (by omega)] at hc
  omega
def firstSpec : CSpec
  | [.int .u64 s], k => ((U64 s.val)) ∧ (∀ r0 : Int, r0 = (numF s.val 1) → ∀ r1 : Int, r1 = (numF s.val 2) → ∀ r2 : Int, r2 = (numF s.val 3) → ∀ r3 : Int, r3 = (numF s.val 4) → ∀ r4 : Int, r4 = (numF s.val 5) → ∀ r5 : Int, r5 = (numF s.val 6) → ∀ r6 : Int, r6 = (numF s.val 7) → ∀ r7 : Int, r7 = (numF s.val 8) → ∀ r8 : Int, r8 = (numF s.val 9) → ∀ r9 : Int, r9 = (numF s.val 10) → ∀ r10 : Int, r10 = (numF s.val 11) → ∀ r11 : Int, r11 = (numF s.val 12) → k (.agg [.int .u64 (.sym r0), .int .u64 (.sym r1), .int .u64 (.sym r2), .int .u64 (.sym r3), .int .u64 (.sym r4), .int .u64 (.sym r5), .int .u64 (.sym r6), .int .u64 (.sym r7), .int .u64 (.sym r8), .int .u64 (.sym r9), .int .u64 (.sym r10), .int .u64 (.sym r11)]))
  | _, _ => False
def VCFirst (s : Int) : Prop :=
  (U64 s /\ I64 (1 : Int)) /\ ∀ v1, v1 = numF s (1 : Int) -> (U64 s /\ I64 (2 : Int)) /\ ∀ v2, v2 = numF s (2 : Int) -> (U64 s /\ I64 (3 : Int)) /\ ∀ v3, v3 = numF s (3 : Int) -> (U64 s /\ I64 (4 : Int)) /\ ∀ v4, v4 = numF s (4 : Int) -> (U64 s /\ I64 (5 : Int)) /\ ∀ v5, v5 = numF s (5 : Int) -> (U64 s /\ I64 (6 : Int)) /\ ∀ v6, v6 = numF s (6 : Int) -> (U64 s /\ I64 (7 : Int)) /\ ∀ v7, v7 = numF s (7 : Int) -> (U64 s /\ I64 (8 : Int)) /\ ∀ v8, v8 = numF s (8 : Int) -> (U64 s /\ I64 (9 : Int)) /\ ∀ v9, v9 = numF s (9 : Int) -> (U64 s /\ I64 (10 : Int)) /\ ∀ v10, v10 = numF s (10 : Int) -> (U64 s /\ I64 (11 : Int)) /\ ∀ v11, v11 = numF s (11 : Int) -> (U64 s /\ I64 (12 : Int)) /\ ∀ v12, v12 = numF s (12 : Int) -> (U64 s /\ I64 (13 : Int)) /\ ∀ v13, v13 = numF s (13 : Int) -> (IntKind.u64 = IntKind.u64 /\ v1 = numF s (1 : Int)) /\ (IntKind.u64 = IntKind.u64 /\ v2 = numF s (2 : Int)) /\ (IntKind.u64 = IntKind.u64 /\ v3 = numF s (3 : Int)) /\ (IntKind.u64 = IntKind.u64 /\ v4 = numF s (4 : Int)) /\ (IntKind.u64 = IntKind.u64 /\ v5 = numF s (5 : Int)) /\ (IntKind.u64 = IntKind.u64 /\ v6 = numF s (6 : Int)) /\ (IntKind.u64 = IntKind.u64 /\ v7 = numF s (7 : Int)) /\ (IntKind.u64 = IntKind.u64 /\ v8 = numF s (8 : Int)) /\ (IntKind.u64 = IntKind.u64 /\ v9 = numF s (9 : Int)) /\ (IntKind.u64 = IntKind.u64 /\ v10 = numF s (10 : Int)) /\ (IntKind.u64 = IntKind.u64 /\ v11 = numF s (11 : Int)) /\ (IntKind.u64 = IntKind.u64 /\ v12 = numF s (12 : Int)) /\ True
theorem tieFirst (w0 : World) (s : Int) : VCFirst s = ((recN (GC Try.prog numsSpec w0) 60).call 19 [.int .u64 (.sym s)] [] (fun r__ _ => eqV r__ (.agg [.int .u64 (.sym (numF s 1)), .int .u64 (.sym (numF s 2)), .int .u64 (.sym (numF s 3)), .int .u64 (.sym (numF s 4)), .int .u64 (.sym (numF s 5)), .int .u64 (.sym (numF s 6)), .int .u64 (.sym (numF s 7)), .int .u64 (.sym (numF s 8)), .int .u64 (.sym (numF s 9)), .int .u64 (.sym (numF s 10)), .int .u64 (.sym (numF s 11)), .int .u64 (.sym (numF s 12))]))) := by kernel_rfl
theorem pureFirst (s : Int) (h : U64 s) : VCFirst s := by
  have e : U64 s = True := eq_true h
  unfold VCFirst
  simp [e, I64]
theorem first_ok : SpecOk Try.prog 19 firstSpec := by
  intro args k h
  unfold firstSpec at h
  split at h
  · rename_i s
    obtain ⟨hr, h⟩ := h
    exact ⟨_, h _ rfl _ rfl _ rfl _ rfl _ rfl _ rfl _ rfl _ rfl _ rfl _ rfl _ rfl _ rfl, PureOk.of_tie (GC Try.prog numsSpec) (fun w__ => gok w__ namesOk_ mixed_ nums_ok) (fun _ => rfl) (fun _ => rfl) (args' := [.int .u64 (.sym s.val)]) ⟨⟨rfl, rfl⟩, trivial⟩ 60 (fun w__ => VCFirst s.val) (fun w__ => tieFirst w__ s.val) (fun w__ => pureFirst s.val hr)⟩
  · exact h.elim

def clocks1Spec : RSpec := fun args k => match args, k with
  | [.bsl la0 ln lc0 [.int .u64 f]], k => (((0 ≤ ln)) ∧ ((∀ i : Int, 0 ≤ i → i < ln → U64 (f i))) ∧ (1 ≤ ln ∧ ln ≤ 12)) ∧ (∀ n0_ : Int, n0_ = (ln) → ∀ g1_ : Int → Int, g1_ = (clkF f) → k [.s n0_ [.int .i64 g1_] 2])
  | _, _ => False
def VCClocks1 (w0 : World) (la : Addr) (ln : Int) (lc : Nat) (f : Int → Int) : Prop :=
  (0 : Int) ≤ ln /\ ∀ v1, v1 = decide ((0 : Int) < ln) -> (v1 = true -> ((0 : Int) ≤ (0 : Int) /\ (0 : Int) < ln) /\ BaseAt w0 la [FC.int IntKind.u64 f] (0 : Int) /\ ∀ v2, v2 = f (0 : Int) -> ∀ v3, v3 = v2.tmod (17179869184 : Int) -> ∀ v4, v4 = IntKind.i64.wrap v3 -> ∀ v5, v5 = IntKind.i64.wrap (v4 - (8589934592 : Int)) -> (∃ (x6 : Int × (Int -> Int)), (((1 : Int) ≤ x6.fst /\ x6.fst ≤ ln) /\ ∀ (v7 : Int), (0 : Int) ≤ v7 -> v7 < x6.fst -> x6.snd v7 = clkF f v7) /\ (((1 : Int) = x6.fst /\ True) /\ (la = la /\ ln = ln /\ lc = lc) /\ ln = ln /\ (1 : Int) = x6.fst /\ True) /\ (v5 = v5 /\ True) /\ (x6.fst * (1 : Int) = (1 : Int) /\ v5 = x6.snd (0 : Int) /\ True) /\ True) /\ ∀ (v8 : Int × (Int -> Int)), (((1 : Int) ≤ v8.fst /\ v8.fst ≤ ln) /\ ∀ (v9 : Int), (0 : Int) ≤ v9 -> v9 < v8.fst -> v8.snd v9 = clkF f v9) -> ∀ v10, v10 = decide (v8.fst < ln) -> (v10 = true -> ((0 : Int) ≤ v8.fst /\ v8.fst < ln) /\ BaseAt w0 la [FC.int IntKind.u64 f] v8.fst /\ ∀ v11, v11 = f v8.fst -> ∀ v12, v12 = v11.tmod (17179869184 : Int) -> ∀ v13, v13 = IntKind.i64.wrap v12 -> ∀ v14, v14 = IntKind.i64.wrap (v13 - (8589934592 : Int)) -> (v8.fst = v8.fst /\ (v8.fst + (1 : Int)) * (8 : Int) ≤ (140737488355328 : Int) /\ v8.fst + (1 : Int) ≤ (140737488355328 : Int)) /\ ∀ (v15 : Int -> Int), v15 = updF v8.snd v8.fst v14 -> ∀ v16, v16 = v8.fst + (1 : Int) -> ∀ v17, v17 = IntKind.i64.wrap (v8.fst + (1 : Int)) -> ∃ (x18 : Int × (Int -> Int)), (((1 : Int) ≤ x18.fst /\ x18.fst ≤ ln) /\ ∀ (v19 : Int), (0 : Int) ≤ v19 -> v19 < x18.fst -> x18.snd v19 = clkF f v19) /\ (((v16 = x18.fst /\ True) /\ (la = la /\ ln = ln /\ lc = lc) /\ ln = ln /\ v17 = x18.fst /\ True) /\ (v5 = v5 /\ True) /\ (v16 = x18.fst /\ (∀ (v20 : Int), (0 : Int) ≤ v20 -> v20 < x18.fst -> v15 v20 = x18.snd v20) /\ True) /\ True) /\ (ln - x18.fst).toNat < (ln - v8.fst).toNat) /\ (v10 = false -> (v8.fst = ln /\ (0 : Int) ≤ ln) /\ (v8.fst = ln /\ (∀ (v21 : Int), (0 : Int) ≤ v21 -> v21 < ln -> v8.snd v21 = clkF f v21) /\ True) /\ True)) /\ (v1 = false -> False)
theorem tieClocks1 (w0 : World) (la : Addr) (ln : Int) (lc : Nat) (f : Int → Int) : VCClocks1 w0 la ln lc f = ((recN (GR Try.prog [] [] [] [] clkAnnSpec [] [] clkPeelSpec [] [] w0) 60).call 20 [.bsl la ln lc [.int .u64 f]] [] (fun r__ h__ => eqR h__ r__ [.s (ln) [.int .i64 (clkF f)] 2])) := by kernel_rfl
theorem pureClocks1 (w0 : World) (la : Addr) (ln : Int) (lc : Nat) (f : Int → Int) (h : (0 ≤ ln) ∧ (∀ i : Int, 0 ≤ i → i < ln → U64 (f i)) ∧ 1 ≤ ln ∧ ln ≤ 12) (hm : (0 ≤ ln ∧ ln ≤ (lc : Int) ∧ ∀ i : Int, 0 ≤ i → i < ln → BaseAt w0 la [.int .u64 f] i) ∧ True) : VCClocks1 w0 la ln lc f := by
  obtain ⟨n0, hf, n1, n12⟩ := h
  obtain ⟨⟨_, hc, hb⟩, _⟩ := hm
  refine ⟨n0, br (fun c => ⟨⟨by omega, c⟩, hb 0 (by omega) c, ?_⟩) fun c => absurd n1 (by omega)⟩
  rintro _ rfl v3 h3 v4 h4 v5 h5
  have e5 : v5 = clkF f 0 := clk_of (hf 0 (by omega) c) h3 h4 h5
  refine ⟨⟨(1, fun _ => v5), ⟨⟨by dsimp only; omega, n1⟩, fun j a b => ?_⟩, by simp⟩, ?_⟩
  · dsimp only at b ⊢
    obtain rfl : j = 0 := by omega
    exact e5
  rintro ⟨i, g⟩ ⟨⟨i1, il⟩, hg⟩
  dsimp only at i1 il hg ⊢
  have w : IntKind.i64.wrap (i + 1) = i + 1 := i64_id (by omega) (by omega)
  rw [w]
  refine br (fun ci => ⟨⟨by omega, ci⟩, hb i (by omega) ci, ?_⟩) fun ci => ?_
  · rintro _ rfl u3 k3 u4 k4 u5 k5
    have e : u5 = clkF f i := clk_of (hf i (by omega) ci) k3 k4 k5
    refine ⟨⟨rfl, by omega, by omega⟩, ?_⟩
    rintro _ rfl _ rfl _ rfl
    exact ⟨(i + 1, updF g i u5), ⟨⟨by dsimp only; omega, by dsimp only; omega⟩, upd_ok hg e⟩, by simp, by dsimp only; omega⟩
  · have e : i = ln := by omega
    subst e
    exact ⟨⟨rfl, n0⟩, ⟨rfl, hg, trivial⟩, trivial⟩
theorem clocks1_ok : SpecOkR Try.prog 20 clocks1Spec := by
  intro args k h
  unfold clocks1Spec at h
  split at h
  · rename_i la0 ln lc0 f
    obtain ⟨hr, h⟩ := h
    refine ⟨_, h _ rfl _ rfl, fun w0 args' he0 hm => ?_⟩
    obtain ⟨la, lc, _, rfl, he1⟩ := eqBL_b he0
    obtain rfl := eqBL_n he1
    exact RunOk.of_tie (GR Try.prog [] [] [] [] clkAnnSpec [] [] clkPeelSpec [] []) (fun w__ => gokR w__ namesOk_ mixed_ trivial trivial trivial trivial) (fun _ => rfl) (fun _ => rfl) (args' := [.bsl la ln lc [.int .u64 f]]) ⟨⟨rfl, rfl, rfl⟩, trivial⟩ 60 (fun w__ => VCClocks1 w__ la ln lc f) (fun w__ => tieClocks1 w__ la ln lc f) hm (fun w__ hm__ => pureClocks1 w__ la ln lc f hr hm__)
  · exact h.elim

def rClocksSpec : RSpec := fun args k => match args, k with
  | [.int .u64 s], k => ((U64 s.val)) ∧ (∀ n0_ : Int, n0_ = (1 + numF s.val 1 % 3) → ∀ g1_ : Int → Int, g1_ = (clkN s.val 3) → ∀ n2_ : Int, n2_ = (1 + numF s.val 2 % 2) → ∀ g3_ : Int → Int, g3_ = (clkN s.val 10) → k [.s n0_ [.int .i64 g1_] 2, .s n2_ [.int .i64 g3_] 2])
  | _, _ => False
def VCRClocks (s : Int) : Prop :=
  (U64 s /\ I64 (1 : Int)) /\ ∀ v1, v1 = numF s (1 : Int) -> ∀ v2, v2 = v1.tmod (3 : Int) -> ∀ v3, v3 = IntKind.i64.wrap v2 -> ∀ v4, v4 = IntKind.i64.wrap ((1 : Int) + v3) -> ∀ v5, v5 = decide ((0 : Int) < v4) -> (v5 = true -> (U64 s /\ I64 (3 : Int)) /\ ∀ v6, v6 = numF s (3 : Int) -> ∀ v7, v7 = v6.tmod (17179869184 : Int) -> ∀ v8, v8 = IntKind.i64.wrap v7 -> ∀ v9, v9 = IntKind.i64.wrap (v8 - (8589934592 : Int)) -> (∃ (x10 : Int × (Int -> Int)), (((1 : Int) ≤ x10.fst /\ x10.fst ≤ (1 : Int) + numF s (1 : Int) % (3 : Int)) /\ ∀ (v11 : Int), (0 : Int) ≤ v11 -> v11 < x10.fst -> x10.snd v11 = clkN s (3 : Int) v11) /\ (s = s /\ ((1 : Int) = x10.fst /\ True) /\ Value.slice none 0 0 = Value.slice none 0 0 /\ (1 : Int) = x10.fst /\ True) /\ (v9 = v9 /\ True) /\ (x10.fst * (1 : Int) = (1 : Int) /\ v9 = x10.snd (0 : Int) /\ True) /\ True) /\ ∀ (v12 : Int × (Int -> Int)), (((1 : Int) ≤ v12.fst /\ v12.fst ≤ (1 : Int) + numF s (1 : Int) % (3 : Int)) /\ ∀ (v13 : Int), (0 : Int) ≤ v13 -> v13 < v12.fst -> v12.snd v13 = clkN s (3 : Int) v13) -> (U64 s /\ I64 (1 : Int)) /\ ∀ v14, v14 = numF s (1 : Int) -> ∀ v15, v15 = v14.tmod (3 : Int) -> ∀ v16, v16 = IntKind.i64.wrap v15 -> ∀ v17, v17 = IntKind.i64.wrap ((1 : Int) + v16) -> ∀ v18, v18 = decide (v12.fst < v17) -> (v18 = true -> ∀ v19, v19 = IntKind.i64.wrap ((3 : Int) + v12.fst) -> (U64 s /\ I64 v19) /\ ∀ v20, v20 = numF s v19 -> ∀ v21, v21 = v20.tmod (17179869184 : Int) -> ∀ v22, v22 = IntKind.i64.wrap v21 -> ∀ v23, v23 = IntKind.i64.wrap (v22 - (8589934592 : Int)) -> (v12.fst = v12.fst /\ (v12.fst + (1 : Int)) * (8 : Int) ≤ (140737488355328 : Int) /\ v12.fst + (1 : Int) ≤ (140737488355328 : Int)) /\ ∀ (v24 : Int -> Int), v24 = updF v12.snd v12.fst v23 -> ∀ v25, v25 = v12.fst + (1 : Int) -> ∀ v26, v26 = IntKind.i64.wrap (v12.fst + (1 : Int)) -> ∃ (x27 : Int × (Int -> Int)), (((1 : Int) ≤ x27.fst /\ x27.fst ≤ (1 : Int) + numF s (1 : Int) % (3 : Int)) /\ ∀ (v28 : Int), (0 : Int) ≤ v28 -> v28 < x27.fst -> x27.snd v28 = clkN s (3 : Int) v28) /\ ((s = s /\ (v25 = x27.fst /\ True) /\ Value.slice none 0 0 = Value.slice none 0 0 /\ v26 = x27.fst /\ True) /\ (v9 = v9 /\ True) /\ (v25 = x27.fst /\ (∀ (v29 : Int), (0 : Int) ≤ v29 -> v29 < x27.fst -> v24 v29 = x27.snd v29) /\ True) /\ True) /\ ((3 : Int) - x27.fst).toNat < ((3 : Int) - v12.fst).toNat) /\ (v18 = false -> (U64 s /\ I64 (2 : Int)) /\ ∀ v30, v30 = numF s (2 : Int) -> ∀ v31, v31 = v30.tmod (2 : Int) -> ∀ v32, v32 = IntKind.i64.wrap v31 -> ∀ v33, v33 = IntKind.i64.wrap ((1 : Int) + v32) -> ∀ v34, v34 = decide ((0 : Int) < v33) -> (v34 = true -> (U64 s /\ I64 (10 : Int)) /\ ∀ v35, v35 = numF s (10 : Int) -> ∀ v36, v36 = v35.tmod (17179869184 : Int) -> ∀ v37, v37 = IntKind.i64.wrap v36 -> ∀ v38, v38 = IntKind.i64.wrap (v37 - (8589934592 : Int)) -> (∃ (x39 : Int × (Int -> Int)), (((1 : Int) ≤ x39.fst /\ x39.fst ≤ (1 : Int) + numF s (2 : Int) % (2 : Int)) /\ ∀ (v40 : Int), (0 : Int) ≤ v40 -> v40 < x39.fst -> x39.snd v40 = clkN s (10 : Int) v40) /\ (s = s /\ (v12.fst = v12.fst /\ True) /\ ((1 : Int) = x39.fst /\ True) /\ (1 : Int) = x39.fst /\ True) /\ (v9 = v9 /\ True) /\ (v12.fst = v12.fst /\ (∀ (v41 : Int), (0 : Int) ≤ v41 -> v41 < v12.fst -> v12.snd v41 = v12.snd v41) /\ True) /\ (v38 = v38 /\ True) /\ (x39.fst * (1 : Int) = (1 : Int) /\ v38 = x39.snd (0 : Int) /\ True) /\ True) /\ ∀ (v42 : Int × (Int -> Int)), (((1 : Int) ≤ v42.fst /\ v42.fst ≤ (1 : Int) + numF s (2 : Int) % (2 : Int)) /\ ∀ (v43 : Int), (0 : Int) ≤ v43 -> v43 < v42.fst -> v42.snd v43 = clkN s (10 : Int) v43) -> (U64 s /\ I64 (2 : Int)) /\ ∀ v44, v44 = numF s (2 : Int) -> ∀ v45, v45 = v44.tmod (2 : Int) -> ∀ v46, v46 = IntKind.i64.wrap v45 -> ∀ v47, v47 = IntKind.i64.wrap ((1 : Int) + v46) -> ∀ v48, v48 = decide (v42.fst < v47) -> (v48 = true -> ∀ v49, v49 = IntKind.i64.wrap ((10 : Int) + v42.fst) -> (U64 s /\ I64 v49) /\ ∀ v50, v50 = numF s v49 -> ∀ v51, v51 = v50.tmod (17179869184 : Int) -> ∀ v52, v52 = IntKind.i64.wrap v51 -> ∀ v53, v53 = IntKind.i64.wrap (v52 - (8589934592 : Int)) -> (v42.fst = v42.fst /\ (v42.fst + (1 : Int)) * (8 : Int) ≤ (140737488355328 : Int) /\ v42.fst + (1 : Int) ≤ (140737488355328 : Int)) /\ ∀ (v54 : Int -> Int), v54 = updF v42.snd v42.fst v53 -> ∀ v55, v55 = v42.fst + (1 : Int) -> ∀ v56, v56 = IntKind.i64.wrap (v42.fst + (1 : Int)) -> ∃ (x57 : Int × (Int -> Int)), (((1 : Int) ≤ x57.fst /\ x57.fst ≤ (1 : Int) + numF s (2 : Int) % (2 : Int)) /\ ∀ (v58 : Int), (0 : Int) ≤ v58 -> v58 < x57.fst -> x57.snd v58 = clkN s (10 : Int) v58) /\ ((s = s /\ (v12.fst = v12.fst /\ True) /\ (v55 = x57.fst /\ True) /\ v56 = x57.fst /\ True) /\ (v9 = v9 /\ True) /\ (v12.fst = v12.fst /\ (∀ (v59 : Int), (0 : Int) ≤ v59 -> v59 < v12.fst -> v12.snd v59 = v12.snd v59) /\ True) /\ (v38 = v38 /\ True) /\ (v55 = x57.fst /\ (∀ (v60 : Int), (0 : Int) ≤ v60 -> v60 < x57.fst -> v54 v60 = x57.snd v60) /\ True) /\ True) /\ ((2 : Int) - x57.fst).toNat < ((2 : Int) - v42.fst).toNat) /\ (v48 = false -> (v12.fst = (1 : Int) + numF s (1 : Int) % (3 : Int) /\ (0 : Int) ≤ (1 : Int) + numF s (1 : Int) % (3 : Int)) /\ (v12.fst = (1 : Int) + numF s (1 : Int) % (3 : Int) /\ (∀ (v61 : Int), (0 : Int) ≤ v61 -> v61 < (1 : Int) + numF s (1 : Int) % (3 : Int) -> v12.snd v61 = clkN s (3 : Int) v61) /\ True) /\ (v42.fst = (1 : Int) + numF s (2 : Int) % (2 : Int) /\ (0 : Int) ≤ (1 : Int) + numF s (2 : Int) % (2 : Int)) /\ (v42.fst = (1 : Int) + numF s (2 : Int) % (2 : Int) /\ (∀ (v62 : Int), (0 : Int) ≤ v62 -> v62 < (1 : Int) + numF s (2 : Int) % (2 : Int) -> v42.snd v62 = clkN s (10 : Int) v62) /\ True) /\ True)) /\ (v34 = false -> (v12.fst = (1 : Int) + numF s (1 : Int) % (3 : Int) /\ (0 : Int) ≤ (1 : Int) + numF s (1 : Int) % (3 : Int)) /\ (v12.fst = (1 : Int) + numF s (1 : Int) % (3 : Int) /\ (∀ (v63 : Int), (0 : Int) ≤ v63 -> v63 < (1 : Int) + numF s (1 : Int) % (3 : Int) -> v12.snd v63 = clkN s (3 : Int) v63) /\ True) /\ False))) /\ (v5 = false -> (U64 s /\ I64 (2 : Int)) /\ ∀ v64, v64 = numF s (2 : Int) -> ∀ v65, v65 = v64.tmod (2 : Int) -> ∀ v66, v66 = IntKind.i64.wrap v65 -> ∀ v67, v67 = IntKind.i64.wrap ((1 : Int) + v66) -> ∀ v68, v68 = decide ((0 : Int) < v67) -> (v68 = true -> (U64 s /\ I64 (10 : Int)) /\ ∀ v69, v69 = numF s (10 : Int) -> ∀ v70, v70 = v69.tmod (17179869184 : Int) -> ∀ v71, v71 = IntKind.i64.wrap v70 -> ∀ v72, v72 = IntKind.i64.wrap (v71 - (8589934592 : Int)) -> (∃ (x73 : Int × (Int -> Int)), (((1 : Int) ≤ x73.fst /\ x73.fst ≤ (1 : Int) + numF s (2 : Int) % (2 : Int)) /\ ∀ (v74 : Int), (0 : Int) ≤ v74 -> v74 < x73.fst -> x73.snd v74 = clkN s (10 : Int) v74) /\ (s = s /\ Value.slice none 0 0 = Value.slice none 0 0 /\ ((1 : Int) = x73.fst /\ True) /\ (1 : Int) = x73.fst /\ True) /\ (v72 = v72 /\ True) /\ (x73.fst * (1 : Int) = (1 : Int) /\ v72 = x73.snd (0 : Int) /\ True) /\ True) /\ ∀ (v75 : Int × (Int -> Int)), (((1 : Int) ≤ v75.fst /\ v75.fst ≤ (1 : Int) + numF s (2 : Int) % (2 : Int)) /\ ∀ (v76 : Int), (0 : Int) ≤ v76 -> v76 < v75.fst -> v75.snd v76 = clkN s (10 : Int) v76) -> (U64 s /\ I64 (2 : Int)) /\ ∀ v77, v77 = numF s (2 : Int) -> ∀ v78, v78 = v77.tmod (2 : Int) -> ∀ v79, v79 = IntKind.i64.wrap v78 -> ∀ v80, v80 = IntKind.i64.wrap ((1 : Int) + v79) -> ∀ v81, v81 = decide (v75.fst < v80) -> (v81 = true -> ∀ v82, v82 = IntKind.i64.wrap ((10 : Int) + v75.fst) -> (U64 s /\ I64 v82) /\ ∀ v83, v83 = numF s v82 -> ∀ v84, v84 = v83.tmod (17179869184 : Int) -> ∀ v85, v85 = IntKind.i64.wrap v84 -> ∀ v86, v86 = IntKind.i64.wrap (v85 - (8589934592 : Int)) -> (v75.fst = v75.fst /\ (v75.fst + (1 : Int)) * (8 : Int) ≤ (140737488355328 : Int) /\ v75.fst + (1 : Int) ≤ (140737488355328 : Int)) /\ ∀ (v87 : Int -> Int), v87 = updF v75.snd v75.fst v86 -> ∀ v88, v88 = v75.fst + (1 : Int) -> ∀ v89, v89 = IntKind.i64.wrap (v75.fst + (1 : Int)) -> ∃ (x90 : Int × (Int -> Int)), (((1 : Int) ≤ x90.fst /\ x90.fst ≤ (1 : Int) + numF s (2 : Int) % (2 : Int)) /\ ∀ (v91 : Int), (0 : Int) ≤ v91 -> v91 < x90.fst -> x90.snd v91 = clkN s (10 : Int) v91) /\ ((s = s /\ Value.slice none 0 0 = Value.slice none 0 0 /\ (v88 = x90.fst /\ True) /\ v89 = x90.fst /\ True) /\ (v72 = v72 /\ True) /\ (v88 = x90.fst /\ (∀ (v92 : Int), (0 : Int) ≤ v92 -> v92 < x90.fst -> v87 v92 = x90.snd v92) /\ True) /\ True) /\ ((2 : Int) - x90.fst).toNat < ((2 : Int) - v75.fst).toNat) /\ (v81 = false -> False)) /\ (v68 = false -> False))
theorem tieRClocks (w0 : World) (s : Int) : VCRClocks s = ((recN (GR Try.prog numsSpec [] [] [] clkAnnSpec [] [] clkPeelSpec [] [] w0) 60).call 6 [.int .u64 (.sym s)] [] (fun r__ h__ => eqR h__ r__ [.s (1 + numF s 1 % 3) [.int .i64 (clkN s 3)] 2, .s (1 + numF s 2 % 2) [.int .i64 (clkN s 10)] 2])) := by kernel_rfl
theorem pureRClocks (w0 : World) (s : Int) (h : U64 s) (hm : True) : VCRClocks s := by
  unfold VCRClocks
  have U1 := num_in s 1
  have U2 := num_in s 2
  refine ⟨⟨h, by decide⟩, ?_⟩
  rintro _ rfl v2 h2 v3 h3 v4 h4
  obtain ⟨e4, m0, m1⟩ := cnt_of U1 (by decide) (by decide) h2 h3 h4
  refine br (fun c => ⟨⟨h, by decide⟩, ?_⟩) fun c => absurd c (by omega)
  rintro _ rfl v7 h7 v8 h8 v9 h9
  have e9 : v9 = clkN s 3 0 := clk_of (num_in s 3) h7 h8 h9
  refine ⟨⟨(1, fun _ => v9), ⟨⟨by dsimp only; omega, by dsimp only; omega⟩, fun j a b => ?_⟩, by simp⟩, ?_⟩
  · dsimp only at b ⊢
    obtain rfl : j = 0 := by omega
    exact e9
  rintro ⟨i, g⟩ ⟨⟨i1, il⟩, hg⟩
  dsimp only at i1 il hg ⊢
  have w : IntKind.i64.wrap (i + 1) = i + 1 := i64_id (by omega) (by omega)
  have w3 : IntKind.i64.wrap (3 + i) = 3 + i := i64_id (by omega) (by omega)
  refine ⟨⟨h, by decide⟩, ?_⟩
  rintro _ rfl u2 k2 u3 k3 u4 k4
  obtain ⟨f4, _, _⟩ := cnt_of U1 (by decide) (by decide) k2 k3 k4
  refine br (fun ci => ?_) fun ci => ⟨⟨h, by decide⟩, ?_⟩
  · rw [w3]
    rintro _ rfl
    refine ⟨⟨h, ⟨by omega, by omega⟩⟩, ?_⟩
    rintro _ rfl u7 k7 u8 k8 u9 k9
    have e : u9 = clkN s 3 i := clk_of (num_in s (3 + i)) k7 k8 k9
    refine ⟨⟨rfl, by omega, by omega⟩, ?_⟩
    rw [w]
    rintro _ rfl _ rfl _ rfl
    exact ⟨(i + 1, updF g i u9), ⟨⟨by dsimp only; omega, by dsimp only; omega⟩, upd_ok hg e⟩, by simp, by dsimp only; omega⟩
  have en : i = 1 + numF s 1 % 3 := by omega
  clear w w3 k2 k3 k4 f4 h2 h3 h4 e4 h7 h8 h9
  rintro _ rfl t2 q2 t3 q3 t4 q4
  obtain ⟨g4, p0, p1⟩ := cnt_of U2 (by decide) (by decide) q2 q3 q4
  refine br (fun c2 => ⟨⟨h, by decide⟩, ?_⟩) fun c2 => absurd c2 (by omega)
  rintro _ rfl t7 q7 t8 q8 t9 q9
  have e10 : t9 = clkN s 10 0 := clk_of (num_in s 10) q7 q8 q9
  refine ⟨⟨(1, fun _ => t9), ⟨⟨by dsimp only; omega, by dsimp only; omega⟩, fun j a b => ?_⟩, by simp⟩, ?_⟩
  · dsimp only at b ⊢
    obtain rfl : j = 0 := by omega
    exact e10
  rintro ⟨j, g2⟩ ⟨⟨j1, jl⟩, hg2⟩
  dsimp only at j1 jl hg2 ⊢
  have w : IntKind.i64.wrap (j + 1) = j + 1 := i64_id (by omega) (by omega)
  have w3 : IntKind.i64.wrap (10 + j) = 10 + j := i64_id (by omega) (by omega)
  refine ⟨⟨h, by decide⟩, ?_⟩
  rintro _ rfl u2 k2 u3 k3 u4 k4
  obtain ⟨f4, _, _⟩ := cnt_of U2 (by decide) (by decide) k2 k3 k4
  refine br (fun ci => ?_) fun ci => ?_
  · rw [w3]
    rintro _ rfl
    refine ⟨⟨h, ⟨by omega, by omega⟩⟩, ?_⟩
    rintro _ rfl u7 k7 u8 k8 u9 k9
    have e : u9 = clkN s 10 j := clk_of (num_in s (10 + j)) k7 k8 k9
    refine ⟨⟨rfl, by omega, by omega⟩, ?_⟩
    rw [w]
    rintro _ rfl _ rfl _ rfl
    exact ⟨(j + 1, updF g2 j u9), ⟨⟨by dsimp only; omega, by dsimp only; omega⟩, upd_ok hg2 e⟩, by simp, by dsimp only; omega⟩
  · have em : j = 1 + numF s 2 % 2 := by omega
    rw [← en, ← em]
    exact ⟨⟨rfl, by omega⟩, ⟨rfl, hg, trivial⟩, ⟨rfl, by omega⟩, ⟨rfl, hg2, trivial⟩, trivial⟩
theorem rClocks_ok : SpecOkR Try.prog 6 rClocksSpec := by
  intro args k h
  unfold rClocksSpec at h
  split at h
  · rename_i s
    obtain ⟨hr, h⟩ := h
    refine ⟨_, h _ rfl _ rfl _ rfl _ rfl, fun w0 args' he0 hm => ?_⟩
    obtain ⟨_, rfl, he1⟩ := eqBL_i he0
    obtain rfl := eqBL_n he1
    exact RunOk.of_tie (GR Try.prog numsSpec [] [] [] clkAnnSpec [] [] clkPeelSpec [] []) (fun w__ => gokR w__ namesOk_ mixed_ nums_ok trivial trivial trivial) (fun _ => rfl) (fun _ => rfl) (args' := [.int .u64 (.sym s.val)]) ⟨⟨rfl, rfl⟩, trivial⟩ 60 (fun w__ => VCRClocks s.val) (fun w__ => tieRClocks w__ s.val) hm (fun w__ hm__ => pureRClocks w__ s.val hr hm__)
  · exact h.elim

end Go.Proofs.Ytifbolmkiafmgaa.A
