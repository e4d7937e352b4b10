import Derived.Test.YtbocopfieadgoaaSxR
import Derived.Test.YtbocopfieadgoaaProg
import Derived.Test.YtbocopfieadgoaaG
import Derived.Test.YtbocopfieadgoaaH
import Derived.Test.YtbocopfieadgoaaJ0
import Derived.KernelRfl
namespace Go.Proofs.Ytbocopfieadgoaa.J
open Go Go.Sx Go.RowKit Go.Proofs.Ytbocopfieadgoaa.C Go.Proofs.Ytbocopfieadgoaa.F Go.Proofs.Ytbocopfieadgoaa.H
set_option linter.unusedVariables false
set_option maxRecDepth 100000
def rowF (n : Int) (P : Int → Bool) : Bool := (List.range n.toNat).all fun i => P (i : Int)
def fitF (n : Int) (o d p a : Int → Int) : Bool := decide (n ≤ 8) && rowF n (fun i => goodF (o i) (d i) (p i) (a i) && decide (i = 0 ∨ a i ≤ a (i - 1)))
def okS (n : Int) (o d p a : Int → Int) : Prop := 0 ≤ n ∧ (∀ i : Int, 0 ≤ i → i < n → I64 (o i)) ∧ (∀ i : Int, 0 ≤ i → i < n → I64 (d i)) ∧ (∀ i : Int, 0 ≤ i → i < n → I64 (p i)) ∧ (∀ i : Int, 0 ≤ i → i < n → I64 (a i))
def fitP (n : Int) (o d p a : Int → Int) : Prop := okS n o d p a ∧ n ≤ 8 ∧ ∀ i : Int, 0 ≤ i → i < n → goodF (o i) (d i) (p i) (a i) = true
def slAtSpec (S : St) (t j : Nat) : Int → Int := match nth S.ts t with
  | .bsl _ _ _ fs => (match fnth fs j with | some (.int _ f) => f | _ => fun _ => 0)
  | .fsl b _ _ => fat S b j
  | _ => fun _ => 0
def fallASpec : St → Inv := fun S =>
  { ι := Int
    T := fun i => stS (keepS S [0, 5]) [(6, .int .i64 (.sym i))]
    R := fun i => (0 ≤ i ∧ i ≤ iat S 5) ∧ ∀ j, 0 ≤ j → j < i → j = 0 ∨ slAtSpec S 0 3 j ≤ slAtSpec S 0 3 (j - 1)
    μ := fun i => (iat S 5 - i).toNat }
def idxASpec : St → Inv := fun S =>
  { ι := Int
    T := fun i => stS (keepS S [0, 1, 7]) [(8, .int .i64 (.sym i))]
    R := fun i => (0 ≤ i ∧ i ≤ iat S 7) ∧ ∀ j, 0 ≤ j → j < i → goodF (slAtSpec S 0 0 j) (slAtSpec S 0 1 j) (slAtSpec S 0 2 j) (slAtSpec S 0 3 j) = true
    μ := fun i => (iat S 7 - i).toNat }
def rfitASpec : St → Inv := fun S =>
  { ι := Int
    T := fun i => stS (keepS S [0]) [(3, .int .i64 (.sym i))]
    R := fun i => 0 ≤ i ∧ ∀ j, 0 ≤ j → j < i → goodF (slAtSpec S 0 0 j) (slAtSpec S 0 1 j) (slAtSpec S 0 2 j) (slAtSpec S 0 3 j) = true ∧ (j = 0 ∨ slAtSpec S 0 3 j ≤ slAtSpec S 0 3 (j - 1))
    μ := fun i => (8 - i).toNat }
def fitAnnSpec : Anns := [(29, 0, fallASpec), (37, 0, idxASpec), (12, 0, rfitASpec)]
def fitCutSpec : Anns := []
def good0Spec : List (FuncId × CSpec) := []
def fitsSpec : List (FuncId × CSpec) := [(8, goodSpec)]
theorem fits_ok : SpecsOk Try.prog fitsSpec := ⟨good_ok, trivial⟩
def fits2Spec : List (FuncId × CSpec) := [(26, fGoodSpec)]
theorem fits2_ok : SpecsOk Try.prog fits2Spec := ⟨fGood_ok, trivial⟩
--@PLAIN
theorem rowF_iff {n : Int} {P : Int → Bool} : rowF n P = true ↔ ∀ i, 0 ≤ i → i < n → P i = true := by
  unfold rowF
  rw [List.all_eq_true]
  constructor
  · intro h i a b
    have := h i.toNat (List.mem_range.2 (by omega))
    rwa [Int.toNat_of_nonneg a] at this
  · intro h i hi
    exact h i (by omega) (by have := List.mem_range.1 hi; omega)
theorem fit_iff {n : Int} {o d p a : Int → Int} : fitF n o d p a = true ↔ n ≤ 8 ∧ ∀ i, 0 ≤ i → i < n → goodF (o i) (d i) (p i) (a i) = true ∧ (i = 0 ∨ a i ≤ a (i - 1)) := by
  unfold fitF
  rw [Bool.and_eq_true, rowF_iff]
  simp only [Bool.and_eq_true, decide_eq_true_eq]
theorem fit_no {n : Int} {o d p a : Int → Int} (h : ¬ (n ≤ 8 ∧ ∀ i, 0 ≤ i → i < n → goodF (o i) (d i) (p i) (a i) = true ∧ (i = 0 ∨ a i ≤ a (i - 1)))) : false = fitF n o d p a := by
  rw [← fit_iff] at h
  exact (Bool.eq_false_iff.2 h).symm
def rFitSpec : CSpec := fun args k => match args, k with
  | [.bsl la0 ln lc0 [.int .i64 o, .int .i64 d, .int .i64 p, .int .i64 a]], k => ((okS ln o d p a)) ∧ (∀ r0 : Bool, r0 = (fitF ln o d p a) → k (.bool (.sym r0)))
  | _, _ => False
def VCRFit (w0 : World) (la : Addr) (ln : Int) (lc : Nat) (o : Int → Int) (d : Int → Int) (p : Int → Int) (a : Int → Int) : Prop :=
  (0 : Int) ≤ ln /\ ∀ v1, v1 = decide (ln > (8 : Int)) -> (v1 = true -> false = fitF ln o d p a) /\ (v1 = false -> (∃ (x2 : Int), ((0 : Int) ≤ x2 /\ ∀ (v3 : Int), (0 : Int) ≤ v3 -> v3 < x2 -> goodF (o v3) (d v3) (p v3) (a v3) = true /\ (v3 = (0 : Int) ∨ a v3 ≤ a (v3 - (1 : Int)))) /\ ((la = la /\ ln = ln /\ lc = lc) /\ (0 : Int) = x2 /\ True) /\ True) /\ ∀ (v4 : Int), ((0 : Int) ≤ v4 /\ ∀ (v5 : Int), (0 : Int) ≤ v5 -> v5 < v4 -> goodF (o v5) (d v5) (p v5) (a v5) = true /\ (v5 = (0 : Int) ∨ a v5 ≤ a (v5 - (1 : Int)))) -> (0 : Int) ≤ ln /\ ∀ v6, v6 = decide (v4 < ln) -> (v6 = true -> ((0 : Int) ≤ v4 /\ v4 < ln) /\ BaseAt w0 la [FC.int IntKind.i64 o, FC.int IntKind.i64 d, FC.int IntKind.i64 p, FC.int IntKind.i64 a] v4 /\ ∀ v7, v7 = o v4 -> ∀ v8, v8 = d v4 -> ∀ v9, v9 = p v4 -> ∀ v10, v10 = a v4 -> (I64 v7 /\ I64 v8 /\ I64 v9 /\ I64 v10) /\ ∀ v11, v11 = goodF v7 v8 v9 v10 -> ∀ (v12 : Bool), v12 = !v11 -> (v12 = false -> ∀ v13, v13 = decide (v4 > (0 : Int)) -> (v13 = true -> ((0 : Int) ≤ v4 /\ v4 < ln) /\ BaseAt w0 la [FC.int IntKind.i64 o, FC.int IntKind.i64 d, FC.int IntKind.i64 p, FC.int IntKind.i64 a] v4 /\ ∀ v14, v14 = a v4 -> ∀ v15, v15 = IntKind.i64.wrap (v4 - (1 : Int)) -> ((0 : Int) ≤ v15 /\ v15 < ln) /\ BaseAt w0 la [FC.int IntKind.i64 o, FC.int IntKind.i64 d, FC.int IntKind.i64 p, FC.int IntKind.i64 a] v15 /\ ∀ v16, v16 = a v15 -> ∀ v17, v17 = decide (v14 > v16) -> (v17 = true -> false = fitF ln o d p a) /\ (v17 = false -> ∀ v18, v18 = IntKind.i64.wrap (v4 + (1 : Int)) -> ∃ (x19 : Int), ((0 : Int) ≤ x19 /\ ∀ (v20 : Int), (0 : Int) ≤ v20 -> v20 < x19 -> goodF (o v20) (d v20) (p v20) (a v20) = true /\ (v20 = (0 : Int) ∨ a v20 ≤ a (v20 - (1 : Int)))) /\ (((la = la /\ ln = ln /\ lc = lc) /\ v18 = x19 /\ True) /\ True) /\ ((8 : Int) - x19).toNat < ((8 : Int) - v4).toNat)) /\ (v13 = false -> ∀ v21, v21 = IntKind.i64.wrap (v4 + (1 : Int)) -> ∃ (x22 : Int), ((0 : Int) ≤ x22 /\ ∀ (v23 : Int), (0 : Int) ≤ v23 -> v23 < x22 -> goodF (o v23) (d v23) (p v23) (a v23) = true /\ (v23 = (0 : Int) ∨ a v23 ≤ a (v23 - (1 : Int)))) /\ (((la = la /\ ln = ln /\ lc = lc) /\ v21 = x22 /\ True) /\ True) /\ ((8 : Int) - x22).toNat < ((8 : Int) - v4).toNat)) /\ (v12 = true -> false = fitF ln o d p a)) /\ (v6 = false -> true = fitF ln o d p a))
theorem tieRFit (w0 : World) (la : Addr) (ln : Int) (lc : Nat) (o : Int → Int) (d : Int → Int) (p : Int → Int) (a : Int → Int) : VCRFit w0 la ln lc o d p a = ((recN (GL Try.prog fitsSpec fitAnnSpec fitCutSpec w0) 60).call 12 [.bsl la ln lc [.int .i64 o, .int .i64 d, .int .i64 p, .int .i64 a]] [] (fun r__ _ => eqV r__ (.bool (.sym (fitF ln o d p a))))) := by kernel_rfl
theorem pureRFit (w0 : World) (la : Addr) (ln : Int) (lc : Nat) (o d p a : Int → Int) (h : okS ln o d p a) (hm : (0 ≤ ln ∧ ln ≤ (lc : Int) ∧ ∀ i : Int, 0 ≤ i → i < ln → BaseAt w0 la [.int .i64 o, .int .i64 d, .int .i64 p, .int .i64 a] i) ∧ True) : VCRFit w0 la ln lc o d p a := by
  obtain ⟨n0, ho, hd, hp, ha⟩ := h
  obtain ⟨⟨_, hc, hb⟩, _⟩ := hm
  refine ⟨n0, br (fun c => fit_no fun z => by omega) fun c => ⟨⟨0, ⟨by omega, fun j a b => by omega⟩, by simp⟩, ?_⟩⟩
  rintro i ⟨i0, hi⟩
  refine ⟨n0, br (fun ci => ?_) fun ci => ?_⟩
  · refine ⟨⟨i0, ci⟩, hb i i0 ci, ?_⟩
    have w1 : IntKind.i64.wrap (i - 1) = i - 1 := i64_id (by omega) (by omega)
    have w2 : IntKind.i64.wrap (i + 1) = i + 1 := i64_id (by omega) (by omega)
    rintro _ rfl _ rfl _ rfl _ rfl
    refine ⟨⟨ho i i0 ci, hd i i0 ci, hp i i0 ci, ha i i0 ci⟩, rbbn (fun g => ?_) fun g => fit_no fun z => ?_⟩
    · refine br (fun ip => ⟨⟨i0, ci⟩, hb i i0 ci, ?_⟩) fun ip => ?_
      · rintro _ rfl
        rw [w1]
        rintro _ rfl
        refine ⟨⟨by omega, by omega⟩, hb _ (by omega) (by omega), ?_⟩
        rintro _ rfl
        refine br (fun e => fit_no fun z => ?_) fun e => ?_
        · have := (z.2 i i0 ci).2; omega
        · rw [w2]
          rintro _ rfl
          refine ⟨i + 1, ⟨by omega, fun j j0 j1 => ?_⟩, by simp; omega⟩
          by_cases hj : j = i
          · subst hj; exact ⟨g, by omega⟩
          · exact hi j j0 (by omega)
      · rw [w2]
        rintro _ rfl
        refine ⟨i + 1, ⟨by omega, fun j j0 j1 => ?_⟩, by simp; omega⟩
        by_cases hj : j = i
        · subst hj; exact ⟨g, by omega⟩
        · exact hi j j0 (by omega)
    · have := (z.2 i i0 ci).1
      rw [g] at this; cases this
  · exact (fit_iff.2 ⟨by omega, fun j j0 j1 => hi j j0 (by omega)⟩).symm
theorem rFit_ok : SpecOkF Try.prog 12 rFitSpec := by
  intro args k h
  unfold rFitSpec at h
  split at h
  · rename_i la0 ln lc0 o d p a
    obtain ⟨hr, h⟩ := h
    refine ⟨_, h _ rfl, fun w0 args' he0 hm => ?_⟩
    obtain ⟨la, lc, _, rfl, he1⟩ := eqBL_b he0
    obtain rfl := eqBL_n he1
    exact PureOkAt.of_tieF (GL Try.prog fitsSpec fitAnnSpec fitCutSpec) (fun w__ => gokL w__ namesOk_ mixed_ fits_ok) (fun _ => rfl) (fun _ => rfl) (args' := [.bsl la ln lc [.int .i64 o, .int .i64 d, .int .i64 p, .int .i64 a]]) ⟨⟨rfl, rfl, rfl⟩, trivial⟩ 60 (fun w__ => VCRFit w__ la ln lc o d p a) (fun w__ => tieRFit w__ la ln lc o d p a) hm (fun w__ hm__ => pureRFit w__ la ln lc o d p a hr hm__)
  · exact h.elim

def fitSpec : CSpec := fun args k => match args, k with
  | [.bsl la0 ln lc0 [.int .i64 o, .int .i64 d, .int .i64 p, .int .i64 a]], k => ((okS ln o d p a)) ∧ (∀ r0 : Bool, r0 = (fitF ln o d p a) → k (.bool (.sym r0)))
  | _, _ => False
def VCFit (w0 : World) (la : Addr) (ln : Int) (lc : Nat) (o : Int → Int) (d : Int → Int) (p : Int → Int) (a : Int → Int) : Prop :=
  (0 : Int) ≤ ln /\ ∀ v1, v1 = decide (ln ≤ (8 : Int)) -> (v1 = true -> (0 : Int) ≤ ln /\ (∃ (x2 : Int), (((0 : Int) ≤ x2 /\ x2 ≤ ln) /\ ∀ (v3 : Int), (0 : Int) ≤ v3 -> v3 < x2 -> v3 = (0 : Int) ∨ a v3 ≤ a (v3 - (1 : Int))) /\ ((la = la /\ ln = ln /\ lc = lc) /\ ln = ln /\ (0 : Int) = x2 /\ True) /\ True) /\ ∀ (v4 : Int), (((0 : Int) ≤ v4 /\ v4 ≤ ln) /\ ∀ (v5 : Int), (0 : Int) ≤ v5 -> v5 < v4 -> v5 = (0 : Int) ∨ a v5 ≤ a (v5 - (1 : Int))) -> ∀ v6, v6 = decide (v4 < ln) -> (v6 = true -> ∀ v7, v7 = decide (v4 > (0 : Int)) -> (v7 = true -> ((0 : Int) ≤ v4 /\ v4 < ln) /\ BaseAt w0 la [FC.int IntKind.i64 o, FC.int IntKind.i64 d, FC.int IntKind.i64 p, FC.int IntKind.i64 a] v4 /\ ∀ v8, v8 = a v4 -> ∀ v9, v9 = IntKind.i64.wrap (v4 - (1 : Int)) -> ((0 : Int) ≤ v9 /\ v9 < ln) /\ BaseAt w0 la [FC.int IntKind.i64 o, FC.int IntKind.i64 d, FC.int IntKind.i64 p, FC.int IntKind.i64 a] v9 /\ ∀ v10, v10 = a v9 -> ∀ v11, v11 = decide (v8 > v10) -> (v11 = true -> false = fitF ln o d p a) /\ (v11 = false -> ∀ v12, v12 = IntKind.i64.wrap (v4 + (1 : Int)) -> ∃ (x13 : Int), (((0 : Int) ≤ x13 /\ x13 ≤ ln) /\ ∀ (v14 : Int), (0 : Int) ≤ v14 -> v14 < x13 -> v14 = (0 : Int) ∨ a v14 ≤ a (v14 - (1 : Int))) /\ (((la = la /\ ln = ln /\ lc = lc) /\ ln = ln /\ v12 = x13 /\ True) /\ True) /\ (ln - x13).toNat < (ln - v4).toNat)) /\ (v7 = false -> ∀ v15, v15 = IntKind.i64.wrap (v4 + (1 : Int)) -> ∃ (x16 : Int), (((0 : Int) ≤ x16 /\ x16 ≤ ln) /\ ∀ (v17 : Int), (0 : Int) ≤ v17 -> v17 < x16 -> v17 = (0 : Int) ∨ a v17 ≤ a (v17 - (1 : Int))) /\ (((la = la /\ ln = ln /\ lc = lc) /\ ln = ln /\ v15 = x16 /\ True) /\ True) /\ (ln - x16).toNat < (ln - v4).toNat)) /\ (v6 = false -> (0 : Int) ≤ ln /\ (∃ (x18 : Int), (((0 : Int) ≤ x18 /\ x18 ≤ ln) /\ ∀ (v19 : Int), (0 : Int) ≤ v19 -> v19 < x18 -> goodF (o v19) (d v19) (p v19) (a v19) = true) /\ ((la = la /\ ln = ln /\ lc = lc) /\ True /\ ln = ln /\ (0 : Int) = x18 /\ True) /\ True) /\ ∀ (v20 : Int), (((0 : Int) ≤ v20 /\ v20 ≤ ln) /\ ∀ (v21 : Int), (0 : Int) ≤ v21 -> v21 < v20 -> goodF (o v21) (d v21) (p v21) (a v21) = true) -> ∀ v22, v22 = decide (v20 < ln) -> (v22 = true -> ((0 : Int) ≤ v20 /\ v20 < ln) /\ BaseAt w0 la [FC.int IntKind.i64 o, FC.int IntKind.i64 d, FC.int IntKind.i64 p, FC.int IntKind.i64 a] v20 /\ ∀ v23, v23 = o v20 -> ∀ v24, v24 = d v20 -> ∀ v25, v25 = p v20 -> ∀ v26, v26 = a v20 -> (I64 v23 /\ I64 v24 /\ I64 v25 /\ I64 v26) /\ ∀ v27, v27 = goodF v23 v24 v25 v26 -> ∀ (v28 : Bool), v28 = !v27 -> (v28 = true -> ∀ v29, v29 = decide (v20 ≥ (0 : Int)) -> ∀ (v30 : Bool), v30 = !v29 -> v30 = fitF ln o d p a) /\ (v28 = false -> ∀ v31, v31 = IntKind.i64.wrap (v20 + (1 : Int)) -> ∃ (x32 : Int), (((0 : Int) ≤ x32 /\ x32 ≤ ln) /\ ∀ (v33 : Int), (0 : Int) ≤ v33 -> v33 < x32 -> goodF (o v33) (d v33) (p v33) (a v33) = true) /\ (((la = la /\ ln = ln /\ lc = lc) /\ True /\ ln = ln /\ v31 = x32 /\ True) /\ True) /\ (ln - x32).toNat < (ln - v20).toNat)) /\ (v22 = false -> true = fitF ln o d p a))) /\ (v1 = false -> false = fitF ln o d p a)
theorem tieFit (w0 : World) (la : Addr) (ln : Int) (lc : Nat) (o : Int → Int) (d : Int → Int) (p : Int → Int) (a : Int → Int) : VCFit w0 la ln lc o d p a = ((recN (GL Try.prog fits2Spec fitAnnSpec fitCutSpec w0) 90).call 18 [.bsl la ln lc [.int .i64 o, .int .i64 d, .int .i64 p, .int .i64 a]] [] (fun r__ _ => eqV r__ (.bool (.sym (fitF ln o d p a))))) := by kernel_rfl
theorem pureFit (w0 : World) (la : Addr) (ln : Int) (lc : Nat) (o d p a : Int → Int) (h : okS ln o d p a) (hm : (0 ≤ ln ∧ ln ≤ (lc : Int) ∧ ∀ i : Int, 0 ≤ i → i < ln → BaseAt w0 la [.int .i64 o, .int .i64 d, .int .i64 p, .int .i64 a] i) ∧ True) : VCFit w0 la ln lc o d p a := by
  obtain ⟨n0, ho, hd, hp, ha⟩ := h
  obtain ⟨⟨_, hc, hb⟩, _⟩ := hm
  refine ⟨n0, br (fun c => ⟨n0, ⟨0, ⟨⟨by omega, n0⟩, fun j a b => by omega⟩, by simp⟩, ?_⟩) fun c => fit_no fun z => c z.1⟩
  rintro i ⟨⟨i0, i1⟩, hi⟩
  refine br (fun ci => ?_) fun ci => ⟨n0, ⟨0, ⟨⟨by omega, n0⟩, fun j a b => by omega⟩, by simp⟩, ?_⟩
  · have w1 : IntKind.i64.wrap (i - 1) = i - 1 := i64_id (by omega) (by omega)
    have w2 : IntKind.i64.wrap (i + 1) = i + 1 := i64_id (by omega) (by omega)
    refine br (fun ip => ⟨⟨i0, ci⟩, hb i i0 ci, ?_⟩) fun ip => ?_
    · rintro _ rfl
      rw [w1]
      rintro _ rfl
      refine ⟨⟨by omega, by omega⟩, hb _ (by omega) (by omega), ?_⟩
      rintro _ rfl
      refine br (fun e => fit_no fun z => ?_) fun e => ?_
      · have := (z.2 i i0 ci).2; omega
      · rw [w2]
        rintro _ rfl
        refine ⟨i + 1, ⟨⟨by omega, by omega⟩, fun j j0 j1 => ?_⟩, by simp; omega⟩
        by_cases hj : j = i
        · subst hj; omega
        · exact hi j j0 (by omega)
    · rw [w2]
      rintro _ rfl
      refine ⟨i + 1, ⟨⟨by omega, by omega⟩, fun j j0 j1 => ?_⟩, by simp; omega⟩
      by_cases hj : j = i
      · subst hj; omega
      · exact hi j j0 (by omega)
  · rintro k ⟨⟨k0, k1⟩, hk⟩
    refine br (fun ck => ⟨⟨k0, ck⟩, hb k k0 ck, ?_⟩) fun ck => (fit_iff.2 ⟨c, fun j j0 j1 => ⟨hk j j0 (by omega), hi j j0 (by omega)⟩⟩).symm
    have w2 : IntKind.i64.wrap (k + 1) = k + 1 := i64_id (by omega) (by omega)
    rintro _ rfl _ rfl _ rfl _ rfl
    refine ⟨⟨ho k k0 ck, hd k k0 ck, hp k k0 ck, ha k k0 ck⟩, brbn (fun g => ?_) fun g => ?_⟩
    · rintro _ rfl _ rfl
      rw [decide_eq_true (show k ≥ 0 from k0)]
      exact fit_no fun z => by have := (z.2 k k0 ck).1; rw [g] at this; cases this
    · rw [w2]
      rintro _ rfl
      refine ⟨k + 1, ⟨⟨by omega, by omega⟩, fun j j0 j1 => ?_⟩, by simp; omega⟩
      by_cases hj : j = k
      · subst hj; exact g
      · exact hk j j0 (by omega)
theorem fit_ok : SpecOkF Try.prog 18 fitSpec := by
  intro args k h
  unfold fitSpec at h
  split at h
  · rename_i la0 ln lc0 o d p a
    obtain ⟨hr, h⟩ := h
    refine ⟨_, h _ rfl, fun w0 args' he0 hm => ?_⟩
    obtain ⟨la, lc, _, rfl, he1⟩ := eqBL_b he0
    obtain rfl := eqBL_n he1
    exact PureOkAt.of_tieF (GL Try.prog fits2Spec fitAnnSpec fitCutSpec) (fun w__ => gokL w__ namesOk_ mixed_ fits2_ok) (fun _ => rfl) (fun _ => rfl) (args' := [.bsl la ln lc [.int .i64 o, .int .i64 d, .int .i64 p, .int .i64 a]]) ⟨⟨rfl, rfl, rfl⟩, trivial⟩ 90 (fun w__ => VCFit w__ la ln lc o d p a) (fun w__ => tieFit w__ la ln lc o d p a) hm (fun w__ hm__ => pureFit w__ la ln lc o d p a hr hm__)
  · exact h.elim

end Go.Proofs.Ytbocopfieadgoaa.J
