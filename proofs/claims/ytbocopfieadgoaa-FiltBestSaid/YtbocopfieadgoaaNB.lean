import Derived.Test.YtbocopfieadgoaaSxR
import Derived.Test.YtbocopfieadgoaaProg
import Derived.Test.YtbocopfieadgoaaM
import Derived.KernelRfl
namespace Go.Proofs.Ytbocopfieadgoaa.J
open Go Go.Sx Go.RowKit Go.Proofs.Ytbocopfieadgoaa.C Go.Proofs.Ytbocopfieadgoaa.F Go.Proofs.Ytbocopfieadgoaa.H
set_option linter.unusedVariables false
set_option maxRecDepth 100000
def fbestASpec : St → Inv := fun S =>
  { ι := Int
    T := fun i => stS (keepS S [0, 2, 4, 6, 7, 38, 39]) [(40, .int .i64 (.sym i))]
    R := fun i => 0 ≤ i ∧ i ≤ iat S 39
    μ := fun i => (iat S 39 - i).toNat }
def fbAnnSpec : Anns := [(4, 0, fbestASpec), (15, 0, sameASpec)]
def noPeelSpec : List (FuncId × Nat) := []
def fbzFixSpec : Fixs := [(4, 22, true), (4, 30, true), (4, 35, true)]
def fbaFixSpec : Fixs := [(4, 22, false), (4, 27, false), (4, 56, false), (4, 70, false), (14, 8, true)]
def fbbFixSpec : Fixs := [(4, 22, false), (4, 27, false), (4, 56, false), (4, 70, false), (14, 8, false), (14, 17, true), (14, 13, true)]
def fbcFixSpec : Fixs := [(4, 22, false), (4, 27, false), (4, 56, false), (4, 70, false), (14, 8, false), (14, 17, true), (14, 13, false), (4, 84, false)]
--@PLAIN
theorem bestN_min (R : Int → Int) : ∀ (k : Nat) (i : Int), 0 ≤ i → i < k → R (bestN R k) ≤ R i ∧ (i < bestN R k → R (bestN R k) < R i)
  | 0, i, h0, h1 => by omega
  | k + 1, i, h0, h1 => by
    have b := bestN_in R k
    unfold bestN
    split
    · rename_i c
      by_cases e : i = k
      · subst e; exact ⟨Int.le_refl _, fun z => absurd z (by omega)⟩
      · have ih := bestN_min R k i h0 (by omega)
        have : R k < R (bestN R k) := c.resolve_left (by omega)
        exact ⟨by omega, fun _ => by omega⟩
    · rename_i c
      by_cases e : i = k
      · subst e; exact ⟨by omega, fun z => absurd z (by omega)⟩
      · exact bestN_min R k i h0 (by omega)
theorem bestN_zero (R : Int → Int) : ∀ k : Nat, 1 ≤ k → (∀ j : Int, 1 ≤ j → j < k → R 0 ≤ R j) → bestN R k = 0
  | 0, h, _ => by omega
  | 1, _, _ => by simp [bestN]
  | k + 2, _, h => by
    have ih := bestN_zero R (k + 1) (by omega) (fun j a b => h j a (by omega))
    unfold bestN
    rw [ih, if_neg]
    have := h ((k + 1 : Nat) : Int) (by omega) (by omega)
    omega
def VCFiltBestN : Prop :=
  True /\ true = true
theorem tieFiltBestN (w0 : World) (ox : Int) (dx : Int) (px : Int) (ax : Int) (now : Int) : VCFiltBestN  = ((recN (GC Try.prog putsSpec w0) 90).call 4 [.val (.slice none 0 0), .agg [.int .i64 (.sym ox), .int .i64 (.sym dx), .int .i64 (.sym px), .int .i64 (.sym ax)], .int .i64 (.sym now)] [] (fun v _ => isTrue v)) := by kernel_rfl
theorem pureFiltBestN (ox dx px ax now : Int) (h : I64 ox ∧ I64 dx ∧ I64 px ∧ I64 ax ∧ I64 now) : VCFiltBestN := by
  unfold VCFiltBestN
  simp
theorem walkFiltBestN (ox : Int) (dx : Int) (px : Int) (ax : Int) (now : Int) (w0 : World) (hox : (Lit.int .i64 ox).wf = true) (hdx : (Lit.int .i64 dx).wf = true) (hpx : (Lit.int .i64 px).wf = true) (hax : (Lit.int .i64 ax).wf = true) (hnow : (Lit.int .i64 now).wf = true) : Calls Try.prog 4 #[.slice none 0 0, .agg #[.int .i64 ox, .int .i64 dx, .int .i64 px, .int .i64 ax], .int .i64 now] w0 fun e w' => e = .returned (.bool true) ∧ Below w0.heap.size w0 w' :=
  law_tie (G := GC Try.prog putsSpec w0) (gok w0 namesOk_ mixed_ puts_ok) (n := 90) (f := 4) (args := [.val (.slice none 0 0), .agg [.int .i64 (.sym ox), .int .i64 (.sym dx), .int .i64 (.sym px), .int .i64 (.sym ax)], .int .i64 (.sym now)]) (by kernel_rfl) (VCFiltBestN ) (tieFiltBestN w0 ox dx px ax now) (pureFiltBestN ox dx px ax now ⟨wf_i64 hox, wf_i64 hdx, wf_i64 hpx, wf_i64 hax, wf_i64 hnow⟩)

--@WHYP FiltBest_z hc : (fitF ln o d p a = true → ln = 0)
def VCFiltBest_z (w0 : World) (la : Addr) (ln : Int) (lc : Nat) (o : Int → Int) (d : Int → Int) (p : Int → Int) (a : Int → Int) (now : Int) : Prop :=
  memB w0 la ln lc [FC.int IntKind.i64 o, FC.int IntKind.i64 d, FC.int IntKind.i64 p, FC.int IntKind.i64 a] /\ okS ln o d p a /\ ∀ v1, v1 = fitF ln o d p a -> ∀ (v2 : Bool), v2 = !v1 -> (v2 = true -> True /\ true = true) /\ (v2 = false -> memB w0 la ln lc [FC.int IntKind.i64 o, FC.int IntKind.i64 d, FC.int IntKind.i64 p, FC.int IntKind.i64 a] /\ (fitP ln o d p a /\ I64 now) /\ ∀ v3, v3 = bestF ln d p a now -> ∀ v4, v4 = decide (v3 < (0 : Int)) -> v4 = true /\ ∀ v5, v5 = (v3 == (-1 : Int)) -> v5 = true /\ (0 : Int) ≤ ln /\ ∀ v6, v6 = (ln == (0 : Int)) -> v6 = true /\ True /\ true = true)
theorem tieFiltBest_z (w0 : World) (la : Addr) (ln : Int) (lc : Nat) (o : Int → Int) (d : Int → Int) (p : Int → Int) (a : Int → Int) (ox : Int) (dx : Int) (px : Int) (ax : Int) (now : Int) : VCFiltBest_z w0 la ln lc o d p a now = ((recN (GX Try.prog putsSpec [] putsFSpec fbAnnSpec fitCutSpec noSplSpec noPeelSpec fbzFixSpec w0) 90).call 4 [.bsl la ln lc [.int .i64 o, .int .i64 d, .int .i64 p, .int .i64 a], .agg [.int .i64 (.sym ox), .int .i64 (.sym dx), .int .i64 (.sym px), .int .i64 (.sym ax)], .int .i64 (.sym now)] [] (fun v _ => isTrue v)) := by kernel_rfl
theorem pureFiltBest_z (w0 : World) (la : Addr) (ln : Int) (lc : Nat) (o d p a : Int → Int) (ox dx px ax now : Int) (h : (0 ≤ ln ∧ ln ≤ lc) ∧ lc ≤ Go.maxLen ∧ (∀ i : Int, 0 ≤ i → i < ln → BaseAt w0 la [.int .i64 o, .int .i64 d, .int .i64 p, .int .i64 a] i) ∧ (∀ i, I64 (o i)) ∧ (∀ i, I64 (d i)) ∧ (∀ i, I64 (p i)) ∧ (∀ i, I64 (a i)) ∧ I64 ox ∧ I64 dx ∧ I64 px ∧ I64 ax ∧ I64 now ∧ (fitF ln o d p a = true → ln = 0)) : VCFiltBest_z w0 la ln lc o d p a now := by
  obtain ⟨⟨n0, nc⟩, _, hb, ho, hd, hp, ha, hox, hdx, hpx, hax, hn, hc⟩ := h
  have hN : I64 now = True := eq_true hn
  have hB : memB w0 la ln lc [.int .i64 o, .int .i64 d, .int .i64 p, .int .i64 a] := ⟨⟨n0, nc⟩, hb⟩
  have hS : okS ln o d p a := ⟨n0, fun i _ _ => ho i, fun i _ _ => hd i, fun i _ _ => hp i, fun i _ _ => ha i⟩
  refine ⟨hB, hS, brbn (fun _ => ⟨trivial, rfl⟩) fun hf => ⟨hB, ⟨fit_P hS hf, hn⟩, ?_⟩⟩
  have hF := fit_P hS hf
  have n8 := hF.2.1
  have hg := hF.2.2
  have bi := bestF_in ln d p a now n0
  have z := hc hf
  rw [bi.2.2.2 (by omega)]
  rintro _ rfl
  rintro _ rfl
  refine ⟨by decide, ?_⟩
  rintro _ rfl
  refine ⟨by decide, n0, ?_⟩
  rintro _ rfl
  exact ⟨by simp [z], trivial, rfl⟩
theorem walkFiltBest_z (la : Addr) (ln : Int) (lc : Nat) (o : Int → Int) (d : Int → Int) (p : Int → Int) (a : Int → Int) (ox : Int) (dx : Int) (px : Int) (ax : Int) (now : Int) (w0 : World) (hl : 0 ≤ ln ∧ ln ≤ lc) (hlm : lc ≤ Go.maxLen) (hlb : ∀ i : Int, 0 ≤ i → i < ln → BaseAt w0 la [.int .i64 o, .int .i64 d, .int .i64 p, .int .i64 a] i) (ho : ∀ i, (Lit.int .i64 (o i)).wf = true) (hd : ∀ i, (Lit.int .i64 (d i)).wf = true) (hp : ∀ i, (Lit.int .i64 (p i)).wf = true) (ha : ∀ i, (Lit.int .i64 (a i)).wf = true) (hox : (Lit.int .i64 ox).wf = true) (hdx : (Lit.int .i64 dx).wf = true) (hpx : (Lit.int .i64 px).wf = true) (hax : (Lit.int .i64 ax).wf = true) (hnow : (Lit.int .i64 now).wf = true) (hc : (fitF ln o d p a = true → ln = 0)) : Calls Try.prog 4 #[.slice (some la) ln.toNat lc, .agg #[.int .i64 ox, .int .i64 dx, .int .i64 px, .int .i64 ax], .int .i64 now] w0 fun e w' => e = .returned (.bool true) ∧ Below w0.heap.size w0 w' :=
  law_tie (G := GX Try.prog putsSpec [] putsFSpec fbAnnSpec fitCutSpec noSplSpec noPeelSpec fbzFixSpec w0) (gokX w0 namesOk_ mixed_ puts_ok trivial putsF_ok) (n := 90) (f := 4) (args := [.bsl la ln lc [.int .i64 o, .int .i64 d, .int .i64 p, .int .i64 a], .agg [.int .i64 (.sym ox), .int .i64 (.sym dx), .int .i64 (.sym px), .int .i64 (.sym ax)], .int .i64 (.sym now)]) (by kernel_rfl) (VCFiltBest_z w0 la ln lc o d p a now) (tieFiltBest_z w0 la ln lc o d p a ox dx px ax now) (pureFiltBest_z w0 la ln lc o d p a ox dx px ax now ⟨hl, hlm, hlb, fun i => wf_i64 (ho i), fun i => wf_i64 (hd i), fun i => wf_i64 (hp i), fun i => wf_i64 (ha i), wf_i64 hox, wf_i64 hdx, wf_i64 hpx, wf_i64 hax, wf_i64 hnow, hc⟩)

--@WHYP FiltBest_a hc : fitF ln o d p a = true ∧ 0 < ln ∧ goodF ox dx px ax = false
def VCFiltBest_a (w0 : World) (la : Addr) (ln : Int) (lc : Nat) (o : Int → Int) (d : Int → Int) (p : Int → Int) (a : Int → Int) (ox : Int) (dx : Int) (px : Int) (ax : Int) (now : Int) : Prop :=
  memB w0 la ln lc [FC.int IntKind.i64 o, FC.int IntKind.i64 d, FC.int IntKind.i64 p, FC.int IntKind.i64 a] /\ okS ln o d p a /\ ∀ v1, v1 = fitF ln o d p a -> ∀ (v2 : Bool), v2 = !v1 -> (v2 = true -> True /\ true = true) /\ (v2 = false -> memB w0 la ln lc [FC.int IntKind.i64 o, FC.int IntKind.i64 d, FC.int IntKind.i64 p, FC.int IntKind.i64 a] /\ (fitP ln o d p a /\ I64 now) /\ ∀ v3, v3 = bestF ln d p a now -> ∀ v4, v4 = decide (v3 < (0 : Int)) -> v4 = false /\ (0 : Int) ≤ ln /\ ∀ v5, v5 = decide (v3 ≥ ln) -> v5 = false /\ (0 : Int) ≤ ln /\ (∃ (x6 : Int), ((0 : Int) ≤ x6 /\ x6 ≤ ln) /\ ((la = la /\ ln = ln /\ lc = lc) /\ now = now /\ True /\ false = false /\ v3 = v3 /\ (la = la /\ ln = ln /\ lc = lc) /\ ln = ln /\ (0 : Int) = x6 /\ True) /\ (ox = ox /\ dx = dx /\ px = px /\ ax = ax /\ True) /\ True) /\ ∀ (v7 : Int), (0 : Int) ≤ v7 /\ v7 ≤ ln -> ∀ v8, v8 = decide (v7 < ln) -> (v8 = true -> ((0 : Int) ≤ v7 /\ v7 < ln) /\ BaseAt w0 la [FC.int IntKind.i64 o, FC.int IntKind.i64 d, FC.int IntKind.i64 p, FC.int IntKind.i64 a] v7 /\ ∀ v9, v9 = o v7 -> ∀ v10, v10 = d v7 -> ∀ v11, v11 = p v7 -> ∀ v12, v12 = a v7 -> (I64 v9 /\ I64 v10 /\ I64 v11 /\ I64 v12 /\ I64 now /\ goodF v9 v10 v11 v12 = true) /\ ∀ v13, v13 = rootF v10 v11 v12 now -> ((0 : Int) ≤ v3 /\ v3 < ln) /\ BaseAt w0 la [FC.int IntKind.i64 o, FC.int IntKind.i64 d, FC.int IntKind.i64 p, FC.int IntKind.i64 a] v3 /\ ∀ v14, v14 = o v3 -> ∀ v15, v15 = d v3 -> ∀ v16, v16 = p v3 -> ∀ v17, v17 = a v3 -> (I64 v14 /\ I64 v15 /\ I64 v16 /\ I64 v17 /\ I64 now /\ goodF v14 v15 v16 v17 = true) /\ ∀ v18, v18 = rootF v15 v16 v17 now -> ∀ v19, v19 = decide (v18 > v13) -> v19 = false /\ ∀ v20, v20 = decide (v7 < v3) -> (v20 = true -> ((0 : Int) ≤ v3 /\ v3 < ln) /\ BaseAt w0 la [FC.int IntKind.i64 o, FC.int IntKind.i64 d, FC.int IntKind.i64 p, FC.int IntKind.i64 a] v3 /\ ∀ v21, v21 = o v3 -> ∀ v22, v22 = d v3 -> ∀ v23, v23 = p v3 -> ∀ v24, v24 = a v3 -> (I64 v21 /\ I64 v22 /\ I64 v23 /\ I64 v24 /\ I64 now /\ goodF v21 v22 v23 v24 = true) /\ ∀ v25, v25 = rootF v22 v23 v24 now -> ∀ v26, v26 = (v25 == v13) -> v26 = false /\ ∀ v27, v27 = IntKind.i64.wrap (v7 + (1 : Int)) -> ∃ (x28 : Int), ((0 : Int) ≤ x28 /\ x28 ≤ ln) /\ (((la = la /\ ln = ln /\ lc = lc) /\ now = now /\ True /\ false = false /\ v3 = v3 /\ (la = la /\ ln = ln /\ lc = lc) /\ ln = ln /\ v27 = x28 /\ True) /\ (ox = ox /\ dx = dx /\ px = px /\ ax = ax /\ True) /\ True) /\ (ln - x28).toNat < (ln - v7).toNat) /\ (v20 = false -> ∀ v29, v29 = IntKind.i64.wrap (v7 + (1 : Int)) -> ∃ (x30 : Int), ((0 : Int) ≤ x30 /\ x30 ≤ ln) /\ (((la = la /\ ln = ln /\ lc = lc) /\ now = now /\ True /\ false = false /\ v3 = v3 /\ (la = la /\ ln = ln /\ lc = lc) /\ ln = ln /\ v29 = x30 /\ True) /\ (ox = ox /\ dx = dx /\ px = px /\ ax = ax /\ True) /\ True) /\ (ln - x30).toNat < (ln - v7).toNat)) /\ (v8 = false -> (I64 ox /\ I64 dx /\ I64 px /\ I64 ax) /\ ∀ v31, v31 = goodF ox dx px ax -> ∀ (v32 : Bool), v32 = !v31 -> v32 = true /\ (0 : Int) ≤ ln /\ (0 : Int) ≤ ln /\ ∀ v33, v33 = (ln != ln) -> (v33 = true -> false = true) /\ (v33 = false -> (∃ (x34 : Int), ((0 : Int) ≤ x34 /\ x34 ≤ ln) /\ ((la = la /\ ln = ln /\ lc = lc) /\ (la = la /\ ln = ln /\ lc = lc) /\ (0 : Int) = x34 /\ True) /\ (ox = ox /\ dx = dx /\ px = px /\ ax = ax /\ True) /\ (ox = ox /\ dx = dx /\ px = px /\ ax = ax /\ True) /\ True) /\ ∀ (v35 : Int), (0 : Int) ≤ v35 /\ v35 ≤ ln -> (0 : Int) ≤ ln /\ ∀ v36, v36 = decide (v35 < ln) -> (v36 = true -> ((0 : Int) ≤ v35 /\ v35 < ln) /\ BaseAt w0 la [FC.int IntKind.i64 o, FC.int IntKind.i64 d, FC.int IntKind.i64 p, FC.int IntKind.i64 a] v35 /\ ∀ v37, v37 = o v35 -> ∀ v38, v38 = d v35 -> ∀ v39, v39 = p v35 -> ∀ v40, v40 = a v35 -> ((0 : Int) ≤ v35 /\ v35 < ln) /\ BaseAt w0 la [FC.int IntKind.i64 o, FC.int IntKind.i64 d, FC.int IntKind.i64 p, FC.int IntKind.i64 a] v35 /\ ∀ v41, v41 = o v35 -> ∀ v42, v42 = d v35 -> ∀ v43, v43 = p v35 -> ∀ v44, v44 = a v35 -> ∀ (v45 : Bool), v45 = !(v37 == v41 && (v38 == v42 && (v39 == v43 && (v40 == v44 && true)))) -> (v45 = true -> false = true) /\ (v45 = false -> ∀ v46, v46 = IntKind.i64.wrap (v35 + (1 : Int)) -> ∃ (x47 : Int), ((0 : Int) ≤ x47 /\ x47 ≤ ln) /\ (((la = la /\ ln = ln /\ lc = lc) /\ (la = la /\ ln = ln /\ lc = lc) /\ v46 = x47 /\ True) /\ (ox = ox /\ dx = dx /\ px = px /\ ax = ax /\ True) /\ (ox = ox /\ dx = dx /\ px = px /\ ax = ax /\ True) /\ True) /\ (ln - x47).toNat < (ln - v35).toNat)) /\ (v36 = false -> True /\ true = true))))
theorem tieFiltBest_a (w0 : World) (la : Addr) (ln : Int) (lc : Nat) (o : Int → Int) (d : Int → Int) (p : Int → Int) (a : Int → Int) (ox : Int) (dx : Int) (px : Int) (ax : Int) (now : Int) : VCFiltBest_a w0 la ln lc o d p a ox dx px ax now = ((recN (GX Try.prog putsSpec [] putsFSpec fbAnnSpec fitCutSpec noSplSpec noPeelSpec fbaFixSpec w0) 90).call 4 [.bsl la ln lc [.int .i64 o, .int .i64 d, .int .i64 p, .int .i64 a], .agg [.int .i64 (.sym ox), .int .i64 (.sym dx), .int .i64 (.sym px), .int .i64 (.sym ax)], .int .i64 (.sym now)] [] (fun v _ => isTrue v)) := by kernel_rfl
theorem pureFiltBest_a (w0 : World) (la : Addr) (ln : Int) (lc : Nat) (o d p a : Int → Int) (ox dx px ax now : Int) (h : (0 ≤ ln ∧ ln ≤ lc) ∧ lc ≤ Go.maxLen ∧ (∀ i : Int, 0 ≤ i → i < ln → BaseAt w0 la [.int .i64 o, .int .i64 d, .int .i64 p, .int .i64 a] i) ∧ (∀ i, I64 (o i)) ∧ (∀ i, I64 (d i)) ∧ (∀ i, I64 (p i)) ∧ (∀ i, I64 (a i)) ∧ I64 ox ∧ I64 dx ∧ I64 px ∧ I64 ax ∧ I64 now ∧ fitF ln o d p a = true ∧ 0 < ln ∧ goodF ox dx px ax = false) : VCFiltBest_a w0 la ln lc o d p a ox dx px ax now := by
  obtain ⟨⟨n0, nc⟩, _, hb, ho, hd, hp, ha, hox, hdx, hpx, hax, hn, hc⟩ := h
  have hN : I64 now = True := eq_true hn
  have hB : memB w0 la ln lc [.int .i64 o, .int .i64 d, .int .i64 p, .int .i64 a] := ⟨⟨n0, nc⟩, hb⟩
  have hS : okS ln o d p a := ⟨n0, fun i _ _ => ho i, fun i _ _ => hd i, fun i _ _ => hp i, fun i _ _ => ha i⟩
  refine ⟨hB, hS, brbn (fun _ => ⟨trivial, rfl⟩) fun hf => ⟨hB, ⟨fit_P hS hf, hn⟩, ?_⟩⟩
  have hF := fit_P hS hf
  have n8 := hF.2.1
  have hg := hF.2.2
  have bi := bestF_in ln d p a now n0
  obtain ⟨_, np, gx⟩ := hc
  have mn := bestN_min (rootsF d p a now) ln.toNat
  obtain ⟨b0, b1⟩ := bi.2.2.1 np
  have hbf : bestF ln d p a now = bestN (rootsF d p a now) ln.toNat := rfl
  rw [← hbf] at mn
  rintro _ rfl
  generalize bestF ln d p a now = k at *
  clear hbf bi
  rintro _ rfl
  refine ⟨decide_eq_false (by omega), n0, ?_⟩
  rintro _ rfl
  refine ⟨decide_eq_false (by omega), n0, ⟨0, ⟨by omega, n0⟩, by simp⟩, ?_⟩
  rintro i ⟨i0, i1⟩
  have w2 : IntKind.i64.wrap (i + 1) = i + 1 := i64_id (by omega) (by omega)
  rw [w2]
  refine br (fun ci => ⟨⟨i0, ci⟩, hb i i0 ci, ?_⟩) fun ci => ?_
  · rintro _ rfl _ rfl _ rfl _ rfl
    refine ⟨⟨ho i, hd i, hp i, ha i, hn, hg i i0 ci⟩, ?_⟩
    rintro _ rfl
    refine ⟨⟨b0, b1⟩, hb k b0 b1, ?_⟩
    rintro _ rfl _ rfl _ rfl _ rfl
    refine ⟨⟨ho k, hd k, hp k, ha k, hn, hg k b0 b1⟩, ?_⟩
    rintro _ rfl
    obtain ⟨m1, m2⟩ := mn i i0 (by omega)
    unfold rootsF at m1 m2
    rintro _ rfl
    refine ⟨decide_eq_false (by omega), br (fun ck => ⟨⟨b0, b1⟩, hb k b0 b1, ?_⟩) fun ck => ?_⟩
    · rintro _ rfl _ rfl _ rfl _ rfl
      refine ⟨⟨ho k, hd k, hp k, ha k, hn, hg k b0 b1⟩, ?_⟩
      rintro _ rfl
      rintro _ rfl
      have := m2 ck
      refine ⟨beq_eq_false_iff_ne.2 (by omega), ?_⟩
      rintro _ rfl
      exact ⟨i + 1, ⟨by omega, by omega⟩, by simp, by omega⟩
    · rintro _ rfl
      exact ⟨i + 1, ⟨by omega, by omega⟩, by simp, by omega⟩
  clear w2
  refine ⟨⟨hox, hdx, hpx, hax⟩, ?_⟩
  rintro _ rfl _ rfl
  rw [gx]
  refine ⟨rfl, ?_⟩
  refine ⟨n0, n0, nee rfl ⟨⟨0, ⟨by omega, n0⟩, by simp⟩, ?_⟩⟩
  rintro j ⟨j0, j1⟩
  have w2 : IntKind.i64.wrap (j + 1) = j + 1 := i64_id (by omega) (by omega)
  refine ⟨n0, br (fun cj => ⟨⟨j0, cj⟩, hb j j0 cj, ?_⟩) fun cj => by simp⟩
  rintro _ rfl _ rfl _ rfl _ rfl
  refine ⟨⟨j0, cj⟩, hb j j0 cj, ?_⟩
  rintro _ rfl _ rfl _ rfl _ rfl
  refine same4 rfl rfl rfl rfl ?_
  rw [w2]
  rintro _ rfl
  exact ⟨j + 1, ⟨by omega, by omega⟩, by simp, by omega⟩
theorem walkFiltBest_a (la : Addr) (ln : Int) (lc : Nat) (o : Int → Int) (d : Int → Int) (p : Int → Int) (a : Int → Int) (ox : Int) (dx : Int) (px : Int) (ax : Int) (now : Int) (w0 : World) (hl : 0 ≤ ln ∧ ln ≤ lc) (hlm : lc ≤ Go.maxLen) (hlb : ∀ i : Int, 0 ≤ i → i < ln → BaseAt w0 la [.int .i64 o, .int .i64 d, .int .i64 p, .int .i64 a] i) (ho : ∀ i, (Lit.int .i64 (o i)).wf = true) (hd : ∀ i, (Lit.int .i64 (d i)).wf = true) (hp : ∀ i, (Lit.int .i64 (p i)).wf = true) (ha : ∀ i, (Lit.int .i64 (a i)).wf = true) (hox : (Lit.int .i64 ox).wf = true) (hdx : (Lit.int .i64 dx).wf = true) (hpx : (Lit.int .i64 px).wf = true) (hax : (Lit.int .i64 ax).wf = true) (hnow : (Lit.int .i64 now).wf = true) (hc : fitF ln o d p a = true ∧ 0 < ln ∧ goodF ox dx px ax = false) : Calls Try.prog 4 #[.slice (some la) ln.toNat lc, .agg #[.int .i64 ox, .int .i64 dx, .int .i64 px, .int .i64 ax], .int .i64 now] w0 fun e w' => e = .returned (.bool true) ∧ Below w0.heap.size w0 w' :=
  law_tie (G := GX Try.prog putsSpec [] putsFSpec fbAnnSpec fitCutSpec noSplSpec noPeelSpec fbaFixSpec w0) (gokX w0 namesOk_ mixed_ puts_ok trivial putsF_ok) (n := 90) (f := 4) (args := [.bsl la ln lc [.int .i64 o, .int .i64 d, .int .i64 p, .int .i64 a], .agg [.int .i64 (.sym ox), .int .i64 (.sym dx), .int .i64 (.sym px), .int .i64 (.sym ax)], .int .i64 (.sym now)]) (by kernel_rfl) (VCFiltBest_a w0 la ln lc o d p a ox dx px ax now) (tieFiltBest_a w0 la ln lc o d p a ox dx px ax now) (pureFiltBest_a w0 la ln lc o d p a ox dx px ax now ⟨hl, hlm, hlb, fun i => wf_i64 (ho i), fun i => wf_i64 (hd i), fun i => wf_i64 (hp i), fun i => wf_i64 (ha i), wf_i64 hox, wf_i64 hdx, wf_i64 hpx, wf_i64 hax, wf_i64 hnow, hc⟩)

--@WHYP FiltBest_b hc : fitF ln o d p a = true ∧ 0 < ln ∧ goodF ox dx px ax = true ∧ ax < a 0
def VCFiltBest_b (w0 : World) (la : Addr) (ln : Int) (lc : Nat) (o : Int → Int) (d : Int → Int) (p : Int → Int) (a : Int → Int) (ox : Int) (dx : Int) (px : Int) (ax : Int) (now : Int) : Prop :=
  memB w0 la ln lc [FC.int IntKind.i64 o, FC.int IntKind.i64 d, FC.int IntKind.i64 p, FC.int IntKind.i64 a] /\ okS ln o d p a /\ ∀ v1, v1 = fitF ln o d p a -> ∀ (v2 : Bool), v2 = !v1 -> (v2 = true -> True /\ true = true) /\ (v2 = false -> memB w0 la ln lc [FC.int IntKind.i64 o, FC.int IntKind.i64 d, FC.int IntKind.i64 p, FC.int IntKind.i64 a] /\ (fitP ln o d p a /\ I64 now) /\ ∀ v3, v3 = bestF ln d p a now -> ∀ v4, v4 = decide (v3 < (0 : Int)) -> v4 = false /\ (0 : Int) ≤ ln /\ ∀ v5, v5 = decide (v3 ≥ ln) -> v5 = false /\ (0 : Int) ≤ ln /\ (∃ (x6 : Int), ((0 : Int) ≤ x6 /\ x6 ≤ ln) /\ ((la = la /\ ln = ln /\ lc = lc) /\ now = now /\ True /\ false = false /\ v3 = v3 /\ (la = la /\ ln = ln /\ lc = lc) /\ ln = ln /\ (0 : Int) = x6 /\ True) /\ (ox = ox /\ dx = dx /\ px = px /\ ax = ax /\ True) /\ True) /\ ∀ (v7 : Int), (0 : Int) ≤ v7 /\ v7 ≤ ln -> ∀ v8, v8 = decide (v7 < ln) -> (v8 = true -> ((0 : Int) ≤ v7 /\ v7 < ln) /\ BaseAt w0 la [FC.int IntKind.i64 o, FC.int IntKind.i64 d, FC.int IntKind.i64 p, FC.int IntKind.i64 a] v7 /\ ∀ v9, v9 = o v7 -> ∀ v10, v10 = d v7 -> ∀ v11, v11 = p v7 -> ∀ v12, v12 = a v7 -> (I64 v9 /\ I64 v10 /\ I64 v11 /\ I64 v12 /\ I64 now /\ goodF v9 v10 v11 v12 = true) /\ ∀ v13, v13 = rootF v10 v11 v12 now -> ((0 : Int) ≤ v3 /\ v3 < ln) /\ BaseAt w0 la [FC.int IntKind.i64 o, FC.int IntKind.i64 d, FC.int IntKind.i64 p, FC.int IntKind.i64 a] v3 /\ ∀ v14, v14 = o v3 -> ∀ v15, v15 = d v3 -> ∀ v16, v16 = p v3 -> ∀ v17, v17 = a v3 -> (I64 v14 /\ I64 v15 /\ I64 v16 /\ I64 v17 /\ I64 now /\ goodF v14 v15 v16 v17 = true) /\ ∀ v18, v18 = rootF v15 v16 v17 now -> ∀ v19, v19 = decide (v18 > v13) -> v19 = false /\ ∀ v20, v20 = decide (v7 < v3) -> (v20 = true -> ((0 : Int) ≤ v3 /\ v3 < ln) /\ BaseAt w0 la [FC.int IntKind.i64 o, FC.int IntKind.i64 d, FC.int IntKind.i64 p, FC.int IntKind.i64 a] v3 /\ ∀ v21, v21 = o v3 -> ∀ v22, v22 = d v3 -> ∀ v23, v23 = p v3 -> ∀ v24, v24 = a v3 -> (I64 v21 /\ I64 v22 /\ I64 v23 /\ I64 v24 /\ I64 now /\ goodF v21 v22 v23 v24 = true) /\ ∀ v25, v25 = rootF v22 v23 v24 now -> ∀ v26, v26 = (v25 == v13) -> v26 = false /\ ∀ v27, v27 = IntKind.i64.wrap (v7 + (1 : Int)) -> ∃ (x28 : Int), ((0 : Int) ≤ x28 /\ x28 ≤ ln) /\ (((la = la /\ ln = ln /\ lc = lc) /\ now = now /\ True /\ false = false /\ v3 = v3 /\ (la = la /\ ln = ln /\ lc = lc) /\ ln = ln /\ v27 = x28 /\ True) /\ (ox = ox /\ dx = dx /\ px = px /\ ax = ax /\ True) /\ True) /\ (ln - x28).toNat < (ln - v7).toNat) /\ (v20 = false -> ∀ v29, v29 = IntKind.i64.wrap (v7 + (1 : Int)) -> ∃ (x30 : Int), ((0 : Int) ≤ x30 /\ x30 ≤ ln) /\ (((la = la /\ ln = ln /\ lc = lc) /\ now = now /\ True /\ false = false /\ v3 = v3 /\ (la = la /\ ln = ln /\ lc = lc) /\ ln = ln /\ v29 = x30 /\ True) /\ (ox = ox /\ dx = dx /\ px = px /\ ax = ax /\ True) /\ True) /\ (ln - x30).toNat < (ln - v7).toNat)) /\ (v8 = false -> (I64 ox /\ I64 dx /\ I64 px /\ I64 ax) /\ ∀ v31, v31 = goodF ox dx px ax -> ∀ (v32 : Bool), v32 = !v31 -> v32 = false /\ (0 : Int) ≤ ln /\ ∀ v33, v33 = decide (ln > (0 : Int)) -> v33 = true /\ ((0 : Int) ≤ (0 : Int) /\ (0 : Int) < ln) /\ BaseAt w0 la [FC.int IntKind.i64 o, FC.int IntKind.i64 d, FC.int IntKind.i64 p, FC.int IntKind.i64 a] (0 : Int) /\ ∀ v34, v34 = a (0 : Int) -> ∀ v35, v35 = decide (v34 > ax) -> v35 = true /\ (0 : Int) ≤ ln /\ (0 : Int) ≤ ln /\ ∀ v36, v36 = (ln != ln) -> (v36 = true -> false = true) /\ (v36 = false -> (∃ (x37 : Int), ((0 : Int) ≤ x37 /\ x37 ≤ ln) /\ ((la = la /\ ln = ln /\ lc = lc) /\ (la = la /\ ln = ln /\ lc = lc) /\ (0 : Int) = x37 /\ True) /\ (ox = ox /\ dx = dx /\ px = px /\ ax = ax /\ True) /\ (ox = ox /\ dx = dx /\ px = px /\ ax = ax /\ True) /\ True) /\ ∀ (v38 : Int), (0 : Int) ≤ v38 /\ v38 ≤ ln -> (0 : Int) ≤ ln /\ ∀ v39, v39 = decide (v38 < ln) -> (v39 = true -> ((0 : Int) ≤ v38 /\ v38 < ln) /\ BaseAt w0 la [FC.int IntKind.i64 o, FC.int IntKind.i64 d, FC.int IntKind.i64 p, FC.int IntKind.i64 a] v38 /\ ∀ v40, v40 = o v38 -> ∀ v41, v41 = d v38 -> ∀ v42, v42 = p v38 -> ∀ v43, v43 = a v38 -> ((0 : Int) ≤ v38 /\ v38 < ln) /\ BaseAt w0 la [FC.int IntKind.i64 o, FC.int IntKind.i64 d, FC.int IntKind.i64 p, FC.int IntKind.i64 a] v38 /\ ∀ v44, v44 = o v38 -> ∀ v45, v45 = d v38 -> ∀ v46, v46 = p v38 -> ∀ v47, v47 = a v38 -> ∀ (v48 : Bool), v48 = !(v40 == v44 && (v41 == v45 && (v42 == v46 && (v43 == v47 && true)))) -> (v48 = true -> false = true) /\ (v48 = false -> ∀ v49, v49 = IntKind.i64.wrap (v38 + (1 : Int)) -> ∃ (x50 : Int), ((0 : Int) ≤ x50 /\ x50 ≤ ln) /\ (((la = la /\ ln = ln /\ lc = lc) /\ (la = la /\ ln = ln /\ lc = lc) /\ v49 = x50 /\ True) /\ (ox = ox /\ dx = dx /\ px = px /\ ax = ax /\ True) /\ (ox = ox /\ dx = dx /\ px = px /\ ax = ax /\ True) /\ True) /\ (ln - x50).toNat < (ln - v38).toNat)) /\ (v39 = false -> True /\ true = true))))
theorem tieFiltBest_b (w0 : World) (la : Addr) (ln : Int) (lc : Nat) (o : Int → Int) (d : Int → Int) (p : Int → Int) (a : Int → Int) (ox : Int) (dx : Int) (px : Int) (ax : Int) (now : Int) : VCFiltBest_b w0 la ln lc o d p a ox dx px ax now = ((recN (GX Try.prog putsSpec [] putsFSpec fbAnnSpec fitCutSpec noSplSpec noPeelSpec fbbFixSpec w0) 90).call 4 [.bsl la ln lc [.int .i64 o, .int .i64 d, .int .i64 p, .int .i64 a], .agg [.int .i64 (.sym ox), .int .i64 (.sym dx), .int .i64 (.sym px), .int .i64 (.sym ax)], .int .i64 (.sym now)] [] (fun v _ => isTrue v)) := by kernel_rfl
theorem pureFiltBest_b (w0 : World) (la : Addr) (ln : Int) (lc : Nat) (o d p a : Int → Int) (ox dx px ax now : Int) (h : (0 ≤ ln ∧ ln ≤ lc) ∧ lc ≤ Go.maxLen ∧ (∀ i : Int, 0 ≤ i → i < ln → BaseAt w0 la [.int .i64 o, .int .i64 d, .int .i64 p, .int .i64 a] i) ∧ (∀ i, I64 (o i)) ∧ (∀ i, I64 (d i)) ∧ (∀ i, I64 (p i)) ∧ (∀ i, I64 (a i)) ∧ I64 ox ∧ I64 dx ∧ I64 px ∧ I64 ax ∧ I64 now ∧ fitF ln o d p a = true ∧ 0 < ln ∧ goodF ox dx px ax = true ∧ ax < a 0) : VCFiltBest_b w0 la ln lc o d p a ox dx px ax now := by
  obtain ⟨⟨n0, nc⟩, _, hb, ho, hd, hp, ha, hox, hdx, hpx, hax, hn, hc⟩ := h
  have hN : I64 now = True := eq_true hn
  have hB : memB w0 la ln lc [.int .i64 o, .int .i64 d, .int .i64 p, .int .i64 a] := ⟨⟨n0, nc⟩, hb⟩
  have hS : okS ln o d p a := ⟨n0, fun i _ _ => ho i, fun i _ _ => hd i, fun i _ _ => hp i, fun i _ _ => ha i⟩
  refine ⟨hB, hS, brbn (fun _ => ⟨trivial, rfl⟩) fun hf => ⟨hB, ⟨fit_P hS hf, hn⟩, ?_⟩⟩
  have hF := fit_P hS hf
  have n8 := hF.2.1
  have hg := hF.2.2
  have bi := bestF_in ln d p a now n0
  obtain ⟨_, np, gx, at_⟩ := hc
  have mn := bestN_min (rootsF d p a now) ln.toNat
  obtain ⟨b0, b1⟩ := bi.2.2.1 np
  have hbf : bestF ln d p a now = bestN (rootsF d p a now) ln.toNat := rfl
  rw [← hbf] at mn
  rintro _ rfl
  generalize bestF ln d p a now = k at *
  clear hbf bi
  rintro _ rfl
  refine ⟨decide_eq_false (by omega), n0, ?_⟩
  rintro _ rfl
  refine ⟨decide_eq_false (by omega), n0, ⟨0, ⟨by omega, n0⟩, by simp⟩, ?_⟩
  rintro i ⟨i0, i1⟩
  have w2 : IntKind.i64.wrap (i + 1) = i + 1 := i64_id (by omega) (by omega)
  rw [w2]
  refine br (fun ci => ⟨⟨i0, ci⟩, hb i i0 ci, ?_⟩) fun ci => ?_
  · rintro _ rfl _ rfl _ rfl _ rfl
    refine ⟨⟨ho i, hd i, hp i, ha i, hn, hg i i0 ci⟩, ?_⟩
    rintro _ rfl
    refine ⟨⟨b0, b1⟩, hb k b0 b1, ?_⟩
    rintro _ rfl _ rfl _ rfl _ rfl
    refine ⟨⟨ho k, hd k, hp k, ha k, hn, hg k b0 b1⟩, ?_⟩
    rintro _ rfl
    obtain ⟨m1, m2⟩ := mn i i0 (by omega)
    unfold rootsF at m1 m2
    rintro _ rfl
    refine ⟨decide_eq_false (by omega), br (fun ck => ⟨⟨b0, b1⟩, hb k b0 b1, ?_⟩) fun ck => ?_⟩
    · rintro _ rfl _ rfl _ rfl _ rfl
      refine ⟨⟨ho k, hd k, hp k, ha k, hn, hg k b0 b1⟩, ?_⟩
      rintro _ rfl
      rintro _ rfl
      have := m2 ck
      refine ⟨beq_eq_false_iff_ne.2 (by omega), ?_⟩
      rintro _ rfl
      exact ⟨i + 1, ⟨by omega, by omega⟩, by simp, by omega⟩
    · rintro _ rfl
      exact ⟨i + 1, ⟨by omega, by omega⟩, by simp, by omega⟩
  clear w2
  refine ⟨⟨hox, hdx, hpx, hax⟩, ?_⟩
  rintro _ rfl _ rfl
  rw [gx]
  refine ⟨rfl, n0, ?_⟩
  rintro _ rfl
  refine ⟨decide_eq_true np, ⟨by omega, np⟩, hb 0 (by omega) np, ?_⟩
  rintro _ rfl _ rfl
  refine ⟨decide_eq_true at_, ?_⟩
  refine ⟨n0, n0, nee rfl ⟨⟨0, ⟨by omega, n0⟩, by simp⟩, ?_⟩⟩
  rintro j ⟨j0, j1⟩
  have w2 : IntKind.i64.wrap (j + 1) = j + 1 := i64_id (by omega) (by omega)
  refine ⟨n0, br (fun cj => ⟨⟨j0, cj⟩, hb j j0 cj, ?_⟩) fun cj => by simp⟩
  rintro _ rfl _ rfl _ rfl _ rfl
  refine ⟨⟨j0, cj⟩, hb j j0 cj, ?_⟩
  rintro _ rfl _ rfl _ rfl _ rfl
  refine same4 rfl rfl rfl rfl ?_
  rw [w2]
  rintro _ rfl
  exact ⟨j + 1, ⟨by omega, by omega⟩, by simp, by omega⟩
theorem walkFiltBest_b (la : Addr) (ln : Int) (lc : Nat) (o : Int → Int) (d : Int → Int) (p : Int → Int) (a : Int → Int) (ox : Int) (dx : Int) (px : Int) (ax : Int) (now : Int) (w0 : World) (hl : 0 ≤ ln ∧ ln ≤ lc) (hlm : lc ≤ Go.maxLen) (hlb : ∀ i : Int, 0 ≤ i → i < ln → BaseAt w0 la [.int .i64 o, .int .i64 d, .int .i64 p, .int .i64 a] i) (ho : ∀ i, (Lit.int .i64 (o i)).wf = true) (hd : ∀ i, (Lit.int .i64 (d i)).wf = true) (hp : ∀ i, (Lit.int .i64 (p i)).wf = true) (ha : ∀ i, (Lit.int .i64 (a i)).wf = true) (hox : (Lit.int .i64 ox).wf = true) (hdx : (Lit.int .i64 dx).wf = true) (hpx : (Lit.int .i64 px).wf = true) (hax : (Lit.int .i64 ax).wf = true) (hnow : (Lit.int .i64 now).wf = true) (hc : fitF ln o d p a = true ∧ 0 < ln ∧ goodF ox dx px ax = true ∧ ax < a 0) : Calls Try.prog 4 #[.slice (some la) ln.toNat lc, .agg #[.int .i64 ox, .int .i64 dx, .int .i64 px, .int .i64 ax], .int .i64 now] w0 fun e w' => e = .returned (.bool true) ∧ Below w0.heap.size w0 w' :=
  law_tie (G := GX Try.prog putsSpec [] putsFSpec fbAnnSpec fitCutSpec noSplSpec noPeelSpec fbbFixSpec w0) (gokX w0 namesOk_ mixed_ puts_ok trivial putsF_ok) (n := 90) (f := 4) (args := [.bsl la ln lc [.int .i64 o, .int .i64 d, .int .i64 p, .int .i64 a], .agg [.int .i64 (.sym ox), .int .i64 (.sym dx), .int .i64 (.sym px), .int .i64 (.sym ax)], .int .i64 (.sym now)]) (by kernel_rfl) (VCFiltBest_b w0 la ln lc o d p a ox dx px ax now) (tieFiltBest_b w0 la ln lc o d p a ox dx px ax now) (pureFiltBest_b w0 la ln lc o d p a ox dx px ax now ⟨hl, hlm, hlb, fun i => wf_i64 (ho i), fun i => wf_i64 (hd i), fun i => wf_i64 (hp i), fun i => wf_i64 (ha i), wf_i64 hox, wf_i64 hdx, wf_i64 hpx, wf_i64 hax, wf_i64 hnow, hc⟩)

--@WHYP FiltBest_c hc : fitF ln o d p a = true ∧ 0 < ln ∧ goodF ox dx px ax = true ∧ ¬ ax < a 0
def VCFiltBest_c (w0 : World) (la : Addr) (ln : Int) (lc : Nat) (o : Int → Int) (d : Int → Int) (p : Int → Int) (a : Int → Int) (ox : Int) (dx : Int) (px : Int) (ax : Int) (now : Int) : Prop :=
  memB w0 la ln lc [FC.int IntKind.i64 o, FC.int IntKind.i64 d, FC.int IntKind.i64 p, FC.int IntKind.i64 a] /\ okS ln o d p a /\ ∀ v1, v1 = fitF ln o d p a -> ∀ (v2 : Bool), v2 = !v1 -> (v2 = true -> True /\ true = true) /\ (v2 = false -> memB w0 la ln lc [FC.int IntKind.i64 o, FC.int IntKind.i64 d, FC.int IntKind.i64 p, FC.int IntKind.i64 a] /\ (fitP ln o d p a /\ I64 now) /\ ∀ v3, v3 = bestF ln d p a now -> ∀ v4, v4 = decide (v3 < (0 : Int)) -> v4 = false /\ (0 : Int) ≤ ln /\ ∀ v5, v5 = decide (v3 ≥ ln) -> v5 = false /\ (0 : Int) ≤ ln /\ (∃ (x6 : Int), ((0 : Int) ≤ x6 /\ x6 ≤ ln) /\ ((la = la /\ ln = ln /\ lc = lc) /\ now = now /\ True /\ false = false /\ v3 = v3 /\ (la = la /\ ln = ln /\ lc = lc) /\ ln = ln /\ (0 : Int) = x6 /\ True) /\ (ox = ox /\ dx = dx /\ px = px /\ ax = ax /\ True) /\ True) /\ ∀ (v7 : Int), (0 : Int) ≤ v7 /\ v7 ≤ ln -> ∀ v8, v8 = decide (v7 < ln) -> (v8 = true -> ((0 : Int) ≤ v7 /\ v7 < ln) /\ BaseAt w0 la [FC.int IntKind.i64 o, FC.int IntKind.i64 d, FC.int IntKind.i64 p, FC.int IntKind.i64 a] v7 /\ ∀ v9, v9 = o v7 -> ∀ v10, v10 = d v7 -> ∀ v11, v11 = p v7 -> ∀ v12, v12 = a v7 -> (I64 v9 /\ I64 v10 /\ I64 v11 /\ I64 v12 /\ I64 now /\ goodF v9 v10 v11 v12 = true) /\ ∀ v13, v13 = rootF v10 v11 v12 now -> ((0 : Int) ≤ v3 /\ v3 < ln) /\ BaseAt w0 la [FC.int IntKind.i64 o, FC.int IntKind.i64 d, FC.int IntKind.i64 p, FC.int IntKind.i64 a] v3 /\ ∀ v14, v14 = o v3 -> ∀ v15, v15 = d v3 -> ∀ v16, v16 = p v3 -> ∀ v17, v17 = a v3 -> (I64 v14 /\ I64 v15 /\ I64 v16 /\ I64 v17 /\ I64 now /\ goodF v14 v15 v16 v17 = true) /\ ∀ v18, v18 = rootF v15 v16 v17 now -> ∀ v19, v19 = decide (v18 > v13) -> v19 = false /\ ∀ v20, v20 = decide (v7 < v3) -> (v20 = true -> ((0 : Int) ≤ v3 /\ v3 < ln) /\ BaseAt w0 la [FC.int IntKind.i64 o, FC.int IntKind.i64 d, FC.int IntKind.i64 p, FC.int IntKind.i64 a] v3 /\ ∀ v21, v21 = o v3 -> ∀ v22, v22 = d v3 -> ∀ v23, v23 = p v3 -> ∀ v24, v24 = a v3 -> (I64 v21 /\ I64 v22 /\ I64 v23 /\ I64 v24 /\ I64 now /\ goodF v21 v22 v23 v24 = true) /\ ∀ v25, v25 = rootF v22 v23 v24 now -> ∀ v26, v26 = (v25 == v13) -> v26 = false /\ ∀ v27, v27 = IntKind.i64.wrap (v7 + (1 : Int)) -> ∃ (x28 : Int), ((0 : Int) ≤ x28 /\ x28 ≤ ln) /\ (((la = la /\ ln = ln /\ lc = lc) /\ now = now /\ True /\ false = false /\ v3 = v3 /\ (la = la /\ ln = ln /\ lc = lc) /\ ln = ln /\ v27 = x28 /\ True) /\ (ox = ox /\ dx = dx /\ px = px /\ ax = ax /\ True) /\ True) /\ (ln - x28).toNat < (ln - v7).toNat) /\ (v20 = false -> ∀ v29, v29 = IntKind.i64.wrap (v7 + (1 : Int)) -> ∃ (x30 : Int), ((0 : Int) ≤ x30 /\ x30 ≤ ln) /\ (((la = la /\ ln = ln /\ lc = lc) /\ now = now /\ True /\ false = false /\ v3 = v3 /\ (la = la /\ ln = ln /\ lc = lc) /\ ln = ln /\ v29 = x30 /\ True) /\ (ox = ox /\ dx = dx /\ px = px /\ ax = ax /\ True) /\ True) /\ (ln - x30).toNat < (ln - v7).toNat)) /\ (v8 = false -> (I64 ox /\ I64 dx /\ I64 px /\ I64 ax) /\ ∀ v31, v31 = goodF ox dx px ax -> ∀ (v32 : Bool), v32 = !v31 -> v32 = false /\ (0 : Int) ≤ ln /\ ∀ v33, v33 = decide (ln > (0 : Int)) -> v33 = true /\ ((0 : Int) ≤ (0 : Int) /\ (0 : Int) < ln) /\ BaseAt w0 la [FC.int IntKind.i64 o, FC.int IntKind.i64 d, FC.int IntKind.i64 p, FC.int IntKind.i64 a] (0 : Int) /\ ∀ v34, v34 = a (0 : Int) -> ∀ v35, v35 = decide (v34 > ax) -> v35 = false /\ ((0 : Int) ≤ ln /\ ∀ (v36 : Int), (0 : Int) ≤ v36 -> v36 < ln -> BaseAt w0 la [FC.int IntKind.i64 o, FC.int IntKind.i64 d, FC.int IntKind.i64 p, FC.int IntKind.i64 a] v36) /\ ∀ (v37 : Int), (v37 = if ln < (7 : Int) then ln else (7 : Int)) -> ∀ (v38 : Int -> Int), v38 = cpF (1 : Int) v37 o (tabF ([] ++ [ox] ++ [(0 : Int)] ++ [(0 : Int)] ++ [(0 : Int)] ++ [(0 : Int)] ++ [(0 : Int)] ++ [(0 : Int)] ++ [(0 : Int)]) (0 : Int)) -> ∀ (v39 : Int -> Int), v39 = cpF (1 : Int) v37 d (tabF ([] ++ [dx] ++ [(0 : Int)] ++ [(0 : Int)] ++ [(0 : Int)] ++ [(0 : Int)] ++ [(0 : Int)] ++ [(0 : Int)] ++ [(0 : Int)]) (0 : Int)) -> ∀ (v40 : Int -> Int), v40 = cpF (1 : Int) v37 p (tabF ([] ++ [px] ++ [(0 : Int)] ++ [(0 : Int)] ++ [(0 : Int)] ++ [(0 : Int)] ++ [(0 : Int)] ++ [(0 : Int)] ++ [(0 : Int)]) (0 : Int)) -> ∀ (v41 : Int -> Int), v41 = cpF (1 : Int) v37 a (tabF ([] ++ [ax] ++ [(0 : Int)] ++ [(0 : Int)] ++ [(0 : Int)] ++ [(0 : Int)] ++ [(0 : Int)] ++ [(0 : Int)] ++ [(0 : Int)]) (0 : Int)) -> ∀ v42, v42 = IntKind.i64.wrap (v37 + (1 : Int)) -> ((0 : Int) ≤ (0 : Int) /\ (0 : Int) ≤ v42 /\ v42 ≤ (8 : Int) /\ (0 : Int) < (8 : Int)) /\ ∀ v43, v43 = v42 - (0 : Int) -> ∀ (v44 : Int), v44 = (8 : Int) -> ((0 : Int) ≤ (0 : Int) /\ (0 : Int) ≤ v43 /\ (0 : Int) + v43 ≤ (8 : Int)) /\ ((0 : Int) < v43 /\ v43 * (32 : Int) ≤ (140737488355328 : Int) /\ v43 ≤ (140737488355328 : Int)) /\ ∀ (v45 : Int -> Int), v45 = shF (0 : Int) v38 -> ∀ (v46 : Int -> Int), v46 = shF (0 : Int) v39 -> ∀ (v47 : Int -> Int), v47 = shF (0 : Int) v40 -> ∀ (v48 : Int -> Int), v48 = shF (0 : Int) v41 -> ∀ v49, v49 = v43 -> (I64 ox /\ I64 dx /\ I64 px /\ I64 ax) /\ ∀ v50, v50 = goodF ox dx px ax -> ∀ (v51 : Bool), v51 = !v50 -> v51 = false /\ (I64 ox /\ I64 dx /\ I64 px /\ I64 ax /\ I64 now /\ goodF ox dx px ax = true) /\ ∀ v52, v52 = rootF dx px ax now -> ((0 : Int) ≤ v3 /\ v3 < ln) /\ BaseAt w0 la [FC.int IntKind.i64 o, FC.int IntKind.i64 d, FC.int IntKind.i64 p, FC.int IntKind.i64 a] v3 /\ ∀ v53, v53 = o v3 -> ∀ v54, v54 = d v3 -> ∀ v55, v55 = p v3 -> ∀ v56, v56 = a v3 -> (I64 v53 /\ I64 v54 /\ I64 v55 /\ I64 v56 /\ I64 now /\ goodF v53 v54 v55 v56 = true) /\ ∀ v57, v57 = rootF v54 v55 v56 now -> ∀ v58, v58 = decide (v52 > v57) -> (v58 = false -> ((0 : Int) ≤ v49 /\ v49 ≤ v49) /\ (fitP v49 v45 v46 v47 v48 /\ I64 now) /\ ∀ v59, v59 = bestF v49 v46 v47 v48 now -> ∀ v60, v60 = (v59 == (0 : Int)) -> (v60 = true -> True /\ true = true) /\ (v60 = false -> false = true)) /\ (v58 = true -> True /\ true = true)))
theorem tieFiltBest_c (w0 : World) (la : Addr) (ln : Int) (lc : Nat) (o : Int → Int) (d : Int → Int) (p : Int → Int) (a : Int → Int) (ox : Int) (dx : Int) (px : Int) (ax : Int) (now : Int) : VCFiltBest_c w0 la ln lc o d p a ox dx px ax now = ((recN (GX Try.prog putsSpec [] putsFSpec fbAnnSpec fitCutSpec noSplSpec noPeelSpec fbcFixSpec w0) 90).call 4 [.bsl la ln lc [.int .i64 o, .int .i64 d, .int .i64 p, .int .i64 a], .agg [.int .i64 (.sym ox), .int .i64 (.sym dx), .int .i64 (.sym px), .int .i64 (.sym ax)], .int .i64 (.sym now)] [] (fun v _ => isTrue v)) := by kernel_rfl
theorem pureFiltBest_c (w0 : World) (la : Addr) (ln : Int) (lc : Nat) (o d p a : Int → Int) (ox dx px ax now : Int) (h : (0 ≤ ln ∧ ln ≤ lc) ∧ lc ≤ Go.maxLen ∧ (∀ i : Int, 0 ≤ i → i < ln → BaseAt w0 la [.int .i64 o, .int .i64 d, .int .i64 p, .int .i64 a] i) ∧ (∀ i, I64 (o i)) ∧ (∀ i, I64 (d i)) ∧ (∀ i, I64 (p i)) ∧ (∀ i, I64 (a i)) ∧ I64 ox ∧ I64 dx ∧ I64 px ∧ I64 ax ∧ I64 now ∧ fitF ln o d p a = true ∧ 0 < ln ∧ goodF ox dx px ax = true ∧ ¬ ax < a 0) : VCFiltBest_c w0 la ln lc o d p a ox dx px ax now := by
  obtain ⟨⟨n0, nc⟩, _, hb, ho, hd, hp, ha, hox, hdx, hpx, hax, hn, hc⟩ := h
  have hN : I64 now = True := eq_true hn
  have hB : memB w0 la ln lc [.int .i64 o, .int .i64 d, .int .i64 p, .int .i64 a] := ⟨⟨n0, nc⟩, hb⟩
  have hS : okS ln o d p a := ⟨n0, fun i _ _ => ho i, fun i _ _ => hd i, fun i _ _ => hp i, fun i _ _ => ha i⟩
  refine ⟨hB, hS, brbn (fun _ => ⟨trivial, rfl⟩) fun hf => ⟨hB, ⟨fit_P hS hf, hn⟩, ?_⟩⟩
  have hF := fit_P hS hf
  have n8 := hF.2.1
  have hg := hF.2.2
  have bi := bestF_in ln d p a now n0
  obtain ⟨_, np, gx, at_⟩ := hc
  have mn := bestN_min (rootsF d p a now) ln.toNat
  obtain ⟨b0, b1⟩ := bi.2.2.1 np
  have hbf : bestF ln d p a now = bestN (rootsF d p a now) ln.toNat := rfl
  rw [← hbf] at mn
  rintro _ rfl
  generalize bestF ln d p a now = k at *
  clear hbf bi
  rintro _ rfl
  refine ⟨decide_eq_false (by omega), n0, ?_⟩
  rintro _ rfl
  refine ⟨decide_eq_false (by omega), n0, ⟨0, ⟨by omega, n0⟩, by simp⟩, ?_⟩
  rintro i ⟨i0, i1⟩
  have w2 : IntKind.i64.wrap (i + 1) = i + 1 := i64_id (by omega) (by omega)
  rw [w2]
  refine br (fun ci => ⟨⟨i0, ci⟩, hb i i0 ci, ?_⟩) fun ci => ?_
  · rintro _ rfl _ rfl _ rfl _ rfl
    refine ⟨⟨ho i, hd i, hp i, ha i, hn, hg i i0 ci⟩, ?_⟩
    rintro _ rfl
    refine ⟨⟨b0, b1⟩, hb k b0 b1, ?_⟩
    rintro _ rfl _ rfl _ rfl _ rfl
    refine ⟨⟨ho k, hd k, hp k, ha k, hn, hg k b0 b1⟩, ?_⟩
    rintro _ rfl
    obtain ⟨m1, m2⟩ := mn i i0 (by omega)
    unfold rootsF at m1 m2
    rintro _ rfl
    refine ⟨decide_eq_false (by omega), br (fun ck => ⟨⟨b0, b1⟩, hb k b0 b1, ?_⟩) fun ck => ?_⟩
    · rintro _ rfl _ rfl _ rfl _ rfl
      refine ⟨⟨ho k, hd k, hp k, ha k, hn, hg k b0 b1⟩, ?_⟩
      rintro _ rfl
      rintro _ rfl
      have := m2 ck
      refine ⟨beq_eq_false_iff_ne.2 (by omega), ?_⟩
      rintro _ rfl
      exact ⟨i + 1, ⟨by omega, by omega⟩, by simp, by omega⟩
    · rintro _ rfl
      exact ⟨i + 1, ⟨by omega, by omega⟩, by simp, by omega⟩
  clear w2
  refine ⟨⟨hox, hdx, hpx, hax⟩, ?_⟩
  rintro _ rfl _ rfl
  rw [gx]
  refine ⟨rfl, n0, ?_⟩
  rintro _ rfl
  refine ⟨decide_eq_true np, ⟨by omega, np⟩, hb 0 (by omega) np, ?_⟩
  rintro _ rfl _ rfl
  refine ⟨decide_eq_false at_, ?_⟩
  refine ⟨⟨n0, hb⟩, ?_⟩
  intro m hm f0 e0 f1 e1 f2 e2 f3 e3 q hq
  rw [i64_id (by split at hm <;> omega) (by split at hm <;> omega)] at hq
  refine ⟨by split at hm <;> omega, ?_⟩
  rintro M0 hM0 _ rfl
  refine ⟨by split at hm <;> omega, by split at hm <;> omega, ?_⟩
  rintro g0 k0 g1 k1 g2 k2 g3 k3 N hM1
  have eN : N = m + 1 := by omega
  have m0 : 0 ≤ m ∧ m ≤ 7 ∧ m ≤ ln := by split at hm <;> omega
  have G0 : ∀ j, 0 ≤ j → j < N → g0 j = putF ox o j := fun j a b => by rw [k0, e0]; exact sh_cp a (by omega) rfl
  have G1 : ∀ j, 0 ≤ j → j < N → g1 j = putF dx d j := fun j a b => by rw [k1, e1]; exact sh_cp a (by omega) rfl
  have G2 : ∀ j, 0 ≤ j → j < N → g2 j = putF px p j := fun j a b => by rw [k2, e2]; exact sh_cp a (by omega) rfl
  have G3 : ∀ j, 0 ≤ j → j < N → g3 j = putF ax a j := fun j a b => by rw [k3, e3]; exact sh_cp a (by omega) rfl
  clear e0 e1 e2 e3 k0 k1 k2 k3
  refine ⟨⟨hox, hdx, hpx, hax⟩, ?_⟩
  rintro _ rfl _ rfl
  refine ⟨rfl, ⟨hox, hdx, hpx, hax, hn, rfl⟩, ?_⟩
  rintro _ rfl
  refine ⟨⟨b0, b1⟩, hb k b0 b1, ?_⟩
  rintro _ rfl _ rfl _ rfl _ rfl
  refine ⟨⟨ho k, hd k, hp k, ha k, hn, hg k b0 b1⟩, ?_⟩
  rintro _ rfl
  refine rb (fun nlt => ?_) fun _ => ⟨trivial, rfl⟩
  have P : ∀ (x : Int) (g : Int → Int) (j : Int), I64 x → (∀ i, I64 (g i)) → I64 (putF x g j) := fun x g j hx hg => by unfold putF; split; exact hx; exact hg _
  refine ⟨⟨by omega, Int.le_refl _⟩, ⟨⟨⟨by omega, fun j a b => ?_, fun j a b => ?_, fun j a b => ?_, fun j a b => ?_⟩, by omega, fun j a b => ?_⟩, hn⟩, ?_⟩
  · rw [G0 j a b]; exact P _ _ _ hox ho
  · rw [G1 j a b]; exact P _ _ _ hdx hd
  · rw [G2 j a b]; exact P _ _ _ hpx hp
  · rw [G3 j a b]; exact P _ _ _ hax ha
  · rw [G0 j a b, G1 j a b, G2 j a b, G3 j a b]
    unfold putF
    by_cases e : j = 0
    · rw [if_pos e, if_pos e, if_pos e, if_pos e]; exact gx
    · rw [if_neg e, if_neg e, if_neg e, if_neg e]; exact hg (j - 1) (by omega) (by omega)
  have bz : bestF N g1 g2 g3 now = 0 := by
    refine bestN_zero _ N.toNat (by omega) fun j j1 jN => ?_
    have e0 : rootsF g1 g2 g3 now 0 = rootF dx px ax now := by
      unfold rootsF
      rw [G1 0 (by omega) (by omega), G2 0 (by omega) (by omega), G3 0 (by omega) (by omega)]; rfl
    have ej : rootsF g1 g2 g3 now j = rootsF d p a now (j - 1) := by
      unfold rootsF
      rw [G1 j (by omega) (by omega), G2 j (by omega) (by omega), G3 j (by omega) (by omega)]
      unfold putF
      rw [if_neg (by omega), if_neg (by omega), if_neg (by omega)]
    rw [e0, ej]
    have := (mn (j - 1) (by omega) (by omega)).1
    have e1 : rootsF d p a now k = rootF (d k) (p k) (a k) now := rfl
    omega
  rw [bz]
  simp
theorem walkFiltBest_c (la : Addr) (ln : Int) (lc : Nat) (o : Int → Int) (d : Int → Int) (p : Int → Int) (a : Int → Int) (ox : Int) (dx : Int) (px : Int) (ax : Int) (now : Int) (w0 : World) (hl : 0 ≤ ln ∧ ln ≤ lc) (hlm : lc ≤ Go.maxLen) (hlb : ∀ i : Int, 0 ≤ i → i < ln → BaseAt w0 la [.int .i64 o, .int .i64 d, .int .i64 p, .int .i64 a] i) (ho : ∀ i, (Lit.int .i64 (o i)).wf = true) (hd : ∀ i, (Lit.int .i64 (d i)).wf = true) (hp : ∀ i, (Lit.int .i64 (p i)).wf = true) (ha : ∀ i, (Lit.int .i64 (a i)).wf = true) (hox : (Lit.int .i64 ox).wf = true) (hdx : (Lit.int .i64 dx).wf = true) (hpx : (Lit.int .i64 px).wf = true) (hax : (Lit.int .i64 ax).wf = true) (hnow : (Lit.int .i64 now).wf = true) (hc : fitF ln o d p a = true ∧ 0 < ln ∧ goodF ox dx px ax = true ∧ ¬ ax < a 0) : Calls Try.prog 4 #[.slice (some la) ln.toNat lc, .agg #[.int .i64 ox, .int .i64 dx, .int .i64 px, .int .i64 ax], .int .i64 now] w0 fun e w' => e = .returned (.bool true) ∧ Below w0.heap.size w0 w' :=
  law_tie (G := GX Try.prog putsSpec [] putsFSpec fbAnnSpec fitCutSpec noSplSpec noPeelSpec fbcFixSpec w0) (gokX w0 namesOk_ mixed_ puts_ok trivial putsF_ok) (n := 90) (f := 4) (args := [.bsl la ln lc [.int .i64 o, .int .i64 d, .int .i64 p, .int .i64 a], .agg [.int .i64 (.sym ox), .int .i64 (.sym dx), .int .i64 (.sym px), .int .i64 (.sym ax)], .int .i64 (.sym now)]) (by kernel_rfl) (VCFiltBest_c w0 la ln lc o d p a ox dx px ax now) (tieFiltBest_c w0 la ln lc o d p a ox dx px ax now) (pureFiltBest_c w0 la ln lc o d p a ox dx px ax now ⟨hl, hlm, hlb, fun i => wf_i64 (ho i), fun i => wf_i64 (hd i), fun i => wf_i64 (hp i), fun i => wf_i64 (ha i), wf_i64 hox, wf_i64 hdx, wf_i64 hpx, wf_i64 hax, wf_i64 hnow, hc⟩)

theorem walkFiltBest (la : Addr) (ln : Int) (lc : Nat) (o d p a : Int → Int) (ox dx px ax now : Int) (w0 : World) (hl : 0 ≤ ln ∧ ln ≤ lc) (hlm : lc ≤ Go.maxLen) (hlb : ∀ i : Int, 0 ≤ i → i < ln → BaseAt w0 la [.int .i64 o, .int .i64 d, .int .i64 p, .int .i64 a] i) (ho : ∀ i, (Lit.int .i64 (o i)).wf = true) (hd : ∀ i, (Lit.int .i64 (d i)).wf = true) (hp : ∀ i, (Lit.int .i64 (p i)).wf = true) (ha : ∀ i, (Lit.int .i64 (a i)).wf = true) (hox : (Lit.int .i64 ox).wf = true) (hdx : (Lit.int .i64 dx).wf = true) (hpx : (Lit.int .i64 px).wf = true) (hax : (Lit.int .i64 ax).wf = true) (hnow : (Lit.int .i64 now).wf = true) :
    Calls Try.prog 4 #[.slice (some la) ln.toNat lc, .agg #[.int .i64 ox, .int .i64 dx, .int .i64 px, .int .i64 ax], .int .i64 now] w0 fun e w' => e = .returned (.bool true) ∧ Below w0.heap.size w0 w' := by
  by_cases hf : fitF ln o d p a = true → ln = 0
  · exact walkFiltBest_z la ln lc o d p a ox dx px ax now w0 hl hlm hlb ho hd hp ha hox hdx hpx hax hnow hf
  · have h1 : fitF ln o d p a = true := Decidable.byContradiction fun z => hf fun y => absurd y z
    have h2 : 0 < ln := by
      rcases Int.lt_or_le 0 ln with z | z
      · exact z
      · exact absurd (fun _ => by omega) hf
    cases hg : goodF ox dx px ax with
    | false => exact walkFiltBest_a la ln lc o d p a ox dx px ax now w0 hl hlm hlb ho hd hp ha hox hdx hpx hax hnow ⟨h1, h2, hg⟩
    | true =>
      by_cases ht : ax < a 0
      · exact walkFiltBest_b la ln lc o d p a ox dx px ax now w0 hl hlm hlb ho hd hp ha hox hdx hpx hax hnow ⟨h1, h2, hg, ht⟩
      · exact walkFiltBest_c la ln lc o d p a ox dx px ax now w0 hl hlm hlb ho hd hp ha hox hdx hpx hax hnow ⟨h1, h2, hg, ht⟩
end Go.Proofs.Ytbocopfieadgoaa.J
