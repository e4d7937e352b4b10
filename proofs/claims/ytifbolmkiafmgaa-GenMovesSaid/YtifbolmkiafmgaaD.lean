import Derived.Test.YtifbolmkiafmgaaSxR
import Derived.Test.YtifbolmkiafmgaaSxU
import Derived.Test.YtifbolmkiafmgaaProg
import Derived.Test.YtifbolmkiafmgaaC
import Derived.KernelRfl
namespace Go.Proofs.Ytifbolmkiafmgaa.A
open Go Go.Sx Go.RowKit
set_option linter.unusedVariables false
set_option maxRecDepth 100000
def cloSpec : List (FuncId × CSpec) := [(19, firstSpec)]
theorem clo_ok : SpecsOk Try.prog cloSpec := ⟨first_ok, trivial⟩
def cloRSpec : List (FuncId × RSpec) := [(20, clocks1Spec)]
theorem cloR_ok : SpecsOkR Try.prog cloRSpec := ⟨clocks1_ok, trivial⟩
def cloShSpec : Shapes := [(5, 1, [(4, 1)])]
--@PLAIN
def clocksSpec : RSpec := fun args k => match args, k with
  | [.int .u64 s], k => ((U64 s.val)) ∧ (∀ n0_ : Int, n0_ = (1 + numF s.val 1 % 3) → ∀ g1_ : Int → Int, g1_ = (clkN s.val 3) → ∀ n2_ : Int, n2_ = (1 + numF s.val 2 % 2) → ∀ g3_ : Int → Int, g3_ = (clkN s.val 10) → k [.s n0_ [.int .i64 g1_] 2, .s n2_ [.int .i64 g3_] 2])
  | _, _ => False
def VCClocks (s : Int) : Prop :=
  U64 s /\ ∀ v1, v1 = numF s (1 : Int) -> ∀ v2, v2 = numF s (2 : Int) -> ∀ v3, v3 = numF s (3 : Int) -> ∀ v4, v4 = numF s (4 : Int) -> ∀ v5, v5 = numF s (5 : Int) -> ∀ v6, v6 = numF s (6 : Int) -> ∀ v7, v7 = numF s (7 : Int) -> ∀ v8, v8 = numF s (8 : Int) -> ∀ v9, v9 = numF s (9 : Int) -> ∀ v10, v10 = numF s (10 : Int) -> ∀ v11, v11 = numF s (11 : Int) -> ∀ v12, v12 = numF s (12 : Int) -> ∀ (v13 : Int -> Int), v13 = tabF ([] ++ [v1] ++ [v2] ++ [v3] ++ [v4] ++ [v5] ++ [v6] ++ [v7] ++ [v8] ++ [v9] ++ [v10] ++ [v11] ++ [v12]) (0 : Int) -> (0 : Int) < (12 : Int) /\ ∀ v14, v14 = v13 (0 : Int) -> ∀ v15, v15 = v14.tmod (3 : Int) -> ∀ v16, v16 = IntKind.u64.wrap ((3 : Int) + v15) -> ((0 : Int) ≤ (2 : Int) /\ (2 : Int) ≤ v16 /\ v16 ≤ (12 : Int) /\ (2 : Int) < (12 : Int)) /\ ∀ v17, v17 = v16 - (2 : Int) -> ∀ (v18 : Int), v18 = (10 : Int) -> ((0 : Int) ≤ (2 : Int) /\ (0 : Int) ≤ v17 /\ (2 : Int) + v17 ≤ (12 : Int) /\ v17 ≤ v18) /\ ((0 : Int) ≤ v17 /\ (∀ (v19 : Int), (0 : Int) ≤ v19 -> v19 < v17 -> U64 (shF (2 : Int) v13 v19)) /\ (1 : Int) ≤ v17 /\ v17 ≤ (12 : Int)) /\ ∀ v20, v20 = v17 -> ∀ (v21 : Int -> Int), v21 = clkF (shF (2 : Int) v13) -> (1 : Int) < (12 : Int) /\ ∀ v22, v22 = v13 (1 : Int) -> ∀ v23, v23 = v22.tmod (2 : Int) -> ∀ v24, v24 = IntKind.u64.wrap ((10 : Int) + v23) -> ((0 : Int) ≤ (9 : Int) /\ (9 : Int) ≤ v24 /\ v24 ≤ (12 : Int) /\ (9 : Int) < (12 : Int)) /\ ∀ v25, v25 = v24 - (9 : Int) -> ∀ (v26 : Int), v26 = (3 : Int) -> ((0 : Int) ≤ (9 : Int) /\ (0 : Int) ≤ v25 /\ (9 : Int) + v25 ≤ (12 : Int) /\ v25 ≤ v26) /\ ((0 : Int) ≤ v25 /\ (∀ (v27 : Int), (0 : Int) ≤ v27 -> v27 < v25 -> U64 (shF (9 : Int) v13 v27)) /\ (1 : Int) ≤ v25 /\ v25 ≤ (12 : Int)) /\ ∀ v28, v28 = v25 -> ∀ (v29 : Int -> Int), v29 = clkF (shF (9 : Int) v13) -> (v20 = (1 : Int) + numF s (1 : Int) % (3 : Int) /\ (0 : Int) ≤ (1 : Int) + numF s (1 : Int) % (3 : Int)) /\ (v20 = (1 : Int) + numF s (1 : Int) % (3 : Int) /\ (∀ (v30 : Int), (0 : Int) ≤ v30 -> v30 < (1 : Int) + numF s (1 : Int) % (3 : Int) -> v21 v30 = clkN s (3 : Int) v30) /\ True) /\ (v28 = (1 : Int) + numF s (2 : Int) % (2 : Int) /\ (0 : Int) ≤ (1 : Int) + numF s (2 : Int) % (2 : Int)) /\ (v28 = (1 : Int) + numF s (2 : Int) % (2 : Int) /\ (∀ (v31 : Int), (0 : Int) ≤ v31 -> v31 < (1 : Int) + numF s (2 : Int) % (2 : Int) -> v29 v31 = clkN s (10 : Int) v31) /\ True) /\ True
theorem tieClocks (w0 : World) (s : Int) : VCClocks s = ((recN (GR Try.prog cloSpec [] [] cloRSpec [] [] [] [] [] cloShSpec w0) 60).call 5 [.int .u64 (.sym s)] [] (fun r__ h__ => eqR h__ r__ [.s (1 + numF s 1 % 3) [.int .i64 (clkN s 3)] 2, .s (1 + numF s 2 % 2) [.int .i64 (clkN s 10)] 2])) := by kernel_rfl
theorem pureClocks (w0 : World) (s : Int) (h : U64 s) (hm : True) : VCClocks s := by
  unfold VCClocks
  refine ⟨h, ?_⟩
  rintro _ rfl _ rfl _ rfl _ rfl _ rfl _ rfl _ rfl _ rfl _ rfl _ rfl _ rfl _ rfl t ht
  have tn : ∀ n : Nat, n < 12 → t (n : Int) = numF s (1 + (n : Int)) := by
    intro n hn
    rw [ht]
    match n, hn with
    | 0, _ => rfl
    | 1, _ => rfl
    | 2, _ => rfl
    | 3, _ => rfl
    | 4, _ => rfl
    | 5, _ => rfl
    | 6, _ => rfl
    | 7, _ => rfl
    | 8, _ => rfl
    | 9, _ => rfl
    | 10, _ => rfl
    | 11, _ => rfl
  have tv : ∀ j : Int, 0 ≤ j → j < 12 → t j = numF s (1 + j) := by
    intro j a b
    have := tn j.toNat (by omega)
    rwa [Int.toNat_of_nonneg a] at this
  have t0 : t 0 = numF s 1 := tv 0 (by omega) (by omega)
  have t1 : t 1 = numF s 2 := tv 1 (by omega) (by omega)
  have u1 := num_in s 1
  have u2 := num_in s 2
  clear ht tn
  refine ⟨by decide, ?_⟩
  rw [t0]
  rintro _ rfl v15 h15 v16 h16
  rw [tmod_nonneg u1.1] at h15
  rw [u64_id (by omega) (by omega)] at h16
  refine ⟨by omega, ?_⟩
  rintro v17 h17 _ rfl
  refine ⟨by omega, ⟨by omega, fun j a b => ?_, by omega, by omega⟩, ?_⟩
  · unfold shF; rw [tv _ (by omega) (by omega)]; exact num_in _ _
  rintro n1 hn1 f1 hf1
  refine ⟨by decide, ?_⟩
  rw [t1]
  rintro _ rfl v23 h23 v24 h24
  rw [tmod_nonneg u2.1] at h23
  rw [u64_id (by omega) (by omega)] at h24
  refine ⟨by omega, ?_⟩
  rintro v25 h25 _ rfl
  refine ⟨by omega, ⟨by omega, fun j a b => ?_, by omega, by omega⟩, ?_⟩
  · unfold shF; rw [tv _ (by omega) (by omega)]; exact num_in _ _
  rintro n2 hn2 f2 hf2
  have g1 : ∀ j, 0 ≤ j → j < 1 + numF s 1 % 3 → f1 j = clkN s 3 j := by
    intro j a b
    rw [hf1]; unfold clkF clkN shF
    rw [tv _ (by omega) (by omega), show 1 + (2 + j) = 3 + j by omega]
  have g2 : ∀ j, 0 ≤ j → j < 1 + numF s 2 % 2 → f2 j = clkN s 10 j := by
    intro j a b
    rw [hf2]; unfold clkF clkN shF
    rw [tv _ (by omega) (by omega), show 1 + (9 + j) = 10 + j by omega]
  exact ⟨⟨by omega, by omega⟩, ⟨by omega, g1, trivial⟩, ⟨by omega, by omega⟩, ⟨by omega, g2, trivial⟩, trivial⟩
theorem clocks_ok : SpecOkR Try.prog 5 clocksSpec := by
  intro args k h
  unfold clocksSpec at h
  split at h
  · rename_i s
    obtain ⟨hr, h⟩ := h
    refine ⟨_, h _ rfl _ rfl _ rfl _ rfl, fun w0 args' he0 hm => ?_⟩
    obtain ⟨_, rfl, he1⟩ := eqBL_i he0
    obtain rfl := eqBL_n he1
    exact RunOk.of_tie (GR Try.prog cloSpec [] [] cloRSpec [] [] [] [] [] cloShSpec) (fun w__ => gokR w__ namesOk_ mixed_ clo_ok trivial trivial cloR_ok) (fun _ => rfl) (fun _ => rfl) (args' := [.int .u64 (.sym s.val)]) ⟨⟨rfl, rfl⟩, trivial⟩ 60 (fun w__ => VCClocks s.val) (fun w__ => tieClocks w__ s.val) hm (fun w__ hm__ => pureClocks w__ s.val hr hm__)
  · exact h.elim

end Go.Proofs.Ytifbolmkiafmgaa.A
