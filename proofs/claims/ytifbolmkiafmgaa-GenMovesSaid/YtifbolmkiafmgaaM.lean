import Derived.Test.YtifbolmkiafmgaaSxR
import Derived.Test.YtifbolmkiafmgaaSxU
import Derived.Test.YtifbolmkiafmgaaProg
import Derived.Test.YtifbolmkiafmgaaJ
import Derived.KernelRfl
namespace Go.Proofs.Ytifbolmkiafmgaa.A
open Go Go.Sx Go.RowKit
set_option linter.unusedVariables false
set_option maxRecDepth 100000
def fitASpec : St → Inv := fun S =>
  { ι := Int
    T := fun i => stS (keepS S [0, 1, 4]) [(5, .int .i64 (.sym i))]
    R := fun i => 0 ≤ i ∧ i ≤ slnAtSpec S 0
    μ := fun i => (slnAtSpec S 0 - i).toNat }
def fitAnnSpec : Anns := [(22, 0, fitASpec)]
def fitFixSpec : Fixs := [(22, 25, false), (22, 32, false)]
--@PLAIN
theorem brf {p : Prop} [Decidable p] {A B : Prop} (e : ¬ p) (hA : A) : ∀ v : Bool, v = decide p → (v = false → A) ∧ (v = true → B) := by
  rintro _ rfl
  exact ⟨fun _ => hA, fun q => absurd (of_decide_eq_true q) e⟩
theorem brF {p : Prop} [Decidable p] {A B : Prop} (e : ¬ p) (hB : B) : ∀ v : Bool, v = decide p → (v = true → A) ∧ (v = false → B) := by
  rintro _ rfl
  exact ⟨fun q => absurd (of_decide_eq_true q) e, fun _ => hB⟩
theorem brk {p : Prop} [Decidable p] {A : Prop} (e : ¬ p) (hA : A) : ∀ v : Bool, v = decide p → v = false ∧ A := by
  rintro _ rfl
  exact ⟨decide_eq_false e, hA⟩
def fitsSpec : CSpec := fun args k => match args, k with
  | [.bsl la0 ln lc0 [.int .i64 f], .int .i64 x], k => (((1 ≤ ln ∧ ln ≤ x.val ∧ x.val ≤ 3) ∧ ∀ j, 0 ≤ j → j < ln → -1099511627776 ≤ f j ∧ f j ≤ 1099511627776)) ∧ (k (.bool (.lit true)))
  | _, _ => False
def VCFits (w0 : World) (la : Addr) (ln : Int) (lc : Nat) (f : Int → Int) (x : Int) : Prop :=
  (0 : Int) ≤ ln /\ ∀ v1, v1 = decide (ln < (1 : Int)) -> (v1 = false -> (0 : Int) ≤ ln /\ ∀ v2, v2 = decide (ln > x) -> (v2 = true -> false = true) /\ (v2 = false -> (∃ (x3 : Int), ((0 : Int) ≤ x3 /\ x3 ≤ ln) /\ ((la = la /\ ln = ln /\ lc = lc) /\ x = x /\ false = false /\ (0 : Int) = x3 /\ True) /\ True) /\ ∀ (v4 : Int), (0 : Int) ≤ v4 /\ v4 ≤ ln -> (0 : Int) ≤ ln /\ ∀ v5, v5 = decide (v4 < ln) -> (v5 = true -> ((0 : Int) ≤ v4 /\ v4 < ln) /\ BaseAt w0 la [FC.int IntKind.i64 f] v4 /\ ∀ v6, v6 = f v4 -> ∀ v7, v7 = decide (v6 < (-1099511627776 : Int)) -> (v7 = false -> ((0 : Int) ≤ v4 /\ v4 < ln) /\ BaseAt w0 la [FC.int IntKind.i64 f] v4 /\ ∀ v8, v8 = f v4 -> ∀ v9, v9 = decide (v8 > (1099511627776 : Int)) -> v9 = false /\ ∀ v10, v10 = IntKind.i64.wrap (v4 + (1 : Int)) -> ∃ (x11 : Int), ((0 : Int) ≤ x11 /\ x11 ≤ ln) /\ (((la = la /\ ln = ln /\ lc = lc) /\ x = x /\ false = false /\ v10 = x11 /\ True) /\ True) /\ (ln - x11).toNat < (ln - v4).toNat) /\ (v7 = true -> false = true)) /\ (v5 = false -> true = true))) /\ (v1 = true -> false = true)
theorem tieFits (w0 : World) (la : Addr) (ln : Int) (lc : Nat) (f : Int → Int) (x : Int) : VCFits w0 la ln lc f x = ((recN (GX Try.prog [] [] [] fitAnnSpec [] [] [] fitFixSpec w0) 60).call 22 [.bsl la ln lc [.int .i64 f], .int .i64 (.sym x)] [] (fun r__ _ => eqV r__ (.bool (.lit true)))) := by kernel_rfl
theorem pureFits (w0 : World) (la : Addr) (ln : Int) (lc : Nat) (f : Int → Int) (x : Int) (h : (1 ≤ ln ∧ ln ≤ x ∧ x ≤ 3) ∧ ∀ j, 0 ≤ j → j < ln → -1099511627776 ≤ f j ∧ f j ≤ 1099511627776) (hm : (0 ≤ ln ∧ ln ≤ (lc : Int) ∧ ∀ i : Int, 0 ≤ i → i < ln → BaseAt w0 la [.int .i64 f] i) ∧ True) : VCFits w0 la ln lc f x := by
  obtain ⟨⟨n1, n2, n3⟩, hf⟩ := h
  obtain ⟨⟨n0, _, hb⟩, _⟩ := hm
  refine ⟨n0, brf (by omega) ⟨n0, brF (by omega) ⟨⟨0, ⟨by omega, n0⟩, by simp⟩, ?_⟩⟩⟩
  rintro j ⟨j0, j1⟩
  have w2 : IntKind.i64.wrap (j + 1) = j + 1 := i64_id (by omega) (by omega)
  refine ⟨n0, br (fun cj => ⟨⟨j0, cj⟩, hb j j0 cj, ?_⟩) fun cj => rfl⟩
  have hj := hf j j0 cj
  rintro _ rfl
  refine brf (by omega) ⟨⟨j0, cj⟩, hb j j0 cj, ?_⟩
  rintro _ rfl
  refine brk (by omega) ?_
  rw [w2]
  rintro _ rfl
  exact ⟨j + 1, ⟨by omega, by omega⟩, by simp, by omega⟩
theorem fits_ok : SpecOkF Try.prog 22 fitsSpec := by
  intro args k h
  unfold fitsSpec at h
  split at h
  · rename_i la0 ln lc0 f x
    obtain ⟨hr, h⟩ := h
    refine ⟨_, h , fun w0 args' he0 hm => ?_⟩
    obtain ⟨la, lc, _, rfl, he1⟩ := eqBL_b he0
    obtain ⟨_, rfl, he2⟩ := eqBL_i he1
    obtain rfl := eqBL_n he2
    exact PureOkAt.of_tieF (GX Try.prog [] [] [] fitAnnSpec [] [] [] fitFixSpec) (fun w__ => gokX w__ namesOk_ mixed_ trivial trivial trivial) (fun _ => rfl) (fun _ => rfl) (args' := [.bsl la ln lc [.int .i64 f], .int .i64 (.sym x.val)]) ⟨⟨rfl, rfl, rfl⟩, ⟨rfl, rfl⟩, trivial⟩ 60 (fun w__ => VCFits w__ la ln lc f x.val) (fun w__ => tieFits w__ la ln lc f x.val) hm (fun w__ hm__ => pureFits w__ la ln lc f x.val hr hm__)
  · exact h.elim

end Go.Proofs.Ytifbolmkiafmgaa.A
