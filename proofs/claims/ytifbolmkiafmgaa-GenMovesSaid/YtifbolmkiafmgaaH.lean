import Derived.Test.YtifbolmkiafmgaaSxR
import Derived.Test.YtifbolmkiafmgaaSxU
import Derived.Test.YtifbolmkiafmgaaProg
import Derived.Test.YtifbolmkiafmgaaG
import Derived.KernelRfl
namespace Go.Proofs.Ytifbolmkiafmgaa.A
open Go Go.Sx Go.RowKit
set_option linter.unusedVariables false
set_option maxRecDepth 100000
def slnAtSpec (S : St) (t : Nat) : Int := match nth S.ts t with
  | .bsl _ n _ _ => n
  | .fsl _ n _ => n
  | _ => 0
def saASpec : St → Inv := fun S =>
  { ι := Int
    T := fun i => stS (keepS S [0, 1]) [(5, .int .i64 (.sym i))]
    R := fun i => 0 ≤ i ∧ i ≤ slnAtSpec S 0
    μ := fun i => (slnAtSpec S 0 - i).toNat }
def saAnnSpec : Anns := [(11, 0, saASpec), (12, 0, saASpec)]
def awkSpec : List (FuncId × CSpec) := [(7, mixSpec)]
theorem awk_ok : SpecsOk Try.prog awkSpec := ⟨mix_ok, trivial⟩
--@PLAIN
theorem nee {x y : Int} {A B : Prop} (e : x = y) (hB : B) : ∀ v : Bool, v = (x != y) → (v = true → A) ∧ (v = false → B) := by
  rintro _ rfl
  subst e
  simp [hB]
theorem same7 {a b c d e x a' b' c' d' e' x' : Int} {s s' : ByteArray} {A B : Prop} (h1 : a = a') (h2 : b = b') (h3 : c = c') (h4 : d = d') (h5 : e = e') (h6 : s = s') (h7 : x = x') (hB : B) : ∀ v : Bool, v = !(a == a' && (b == b' && (c == c' && (d == d' && (e == e' && (s == s' && (x == x' && true))))))) → (v = true → A) ∧ (v = false → B) := by
  rintro _ rfl
  subst h1; subst h2; subst h3; subst h4; subst h5; subst h6; subst h7
  have q : (s == s) = true := by first | exact beq_self_eq_true s | (show (s.data == s.data) = true; exact beq_self_eq_true _) | exact decide_eq_true rfl | (cases s; simp [BEq.beq]; done)
  simp [hB, q]
def spansSpec : CSpec := fun args k => match args, k with
  | [.bsl la0 ln lc0 [.int .i64 f], .bsl ma0 mn mc0 [.int .i64 g]], k => ((mn = ln ∧ (0 ≤ ln ∧ ln ≤ 1000) ∧ ∀ j, 0 ≤ j → j < ln → f j = g j)) ∧ (k (.bool (.lit true)))
  | _, _ => False
def VCSpans (w0 : World) (la : Addr) (ln : Int) (lc : Nat) (f : Int → Int) (ma : Addr) (mn : Int) (mc : Nat) (g : Int → Int) : Prop :=
  (0 : Int) ≤ ln /\ (0 : Int) ≤ mn /\ ∀ v1, v1 = (ln != mn) -> (v1 = true -> false = true) /\ (v1 = false -> (∃ (x2 : Int), ((0 : Int) ≤ x2 /\ x2 ≤ ln) /\ ((la = la /\ ln = ln /\ lc = lc) /\ (ma = ma /\ mn = mn /\ mc = mc) /\ (0 : Int) = x2 /\ True) /\ True) /\ ∀ (v3 : Int), (0 : Int) ≤ v3 /\ v3 ≤ ln -> (0 : Int) ≤ ln /\ ∀ v4, v4 = decide (v3 < ln) -> (v4 = true -> ((0 : Int) ≤ v3 /\ v3 < ln) /\ BaseAt w0 la [FC.int IntKind.i64 f] v3 /\ ∀ v5, v5 = f v3 -> ((0 : Int) ≤ v3 /\ v3 < mn) /\ BaseAt w0 ma [FC.int IntKind.i64 g] v3 /\ ∀ v6, v6 = g v3 -> ∀ v7, v7 = (v5 != v6) -> (v7 = true -> false = true) /\ (v7 = false -> ∀ v8, v8 = IntKind.i64.wrap (v3 + (1 : Int)) -> ∃ (x9 : Int), ((0 : Int) ≤ x9 /\ x9 ≤ ln) /\ (((la = la /\ ln = ln /\ lc = lc) /\ (ma = ma /\ mn = mn /\ mc = mc) /\ v8 = x9 /\ True) /\ True) /\ (ln - x9).toNat < (ln - v3).toNat)) /\ (v4 = false -> true = true))
theorem tieSpans (w0 : World) (la : Addr) (ln : Int) (lc : Nat) (f : Int → Int) (ma : Addr) (mn : Int) (mc : Nat) (g : Int → Int) : VCSpans w0 la ln lc f ma mn mc g = ((recN (GL Try.prog [] saAnnSpec [] w0) 60).call 11 [.bsl la ln lc [.int .i64 f], .bsl ma mn mc [.int .i64 g]] [] (fun r__ _ => eqV r__ (.bool (.lit true)))) := by kernel_rfl
theorem pureSpans (w0 : World) (la : Addr) (ln : Int) (lc : Nat) (f : Int → Int) (ma : Addr) (mn : Int) (mc : Nat) (g : Int → Int) (h : mn = ln ∧ (0 ≤ ln ∧ ln ≤ 1000) ∧ ∀ j, 0 ≤ j → j < ln → f j = g j) (hm : (0 ≤ ln ∧ ln ≤ (lc : Int) ∧ ∀ i : Int, 0 ≤ i → i < ln → BaseAt w0 la [.int .i64 f] i) ∧ (0 ≤ mn ∧ mn ≤ (mc : Int) ∧ ∀ i : Int, 0 ≤ i → i < mn → BaseAt w0 ma [.int .i64 g] i) ∧ True) : VCSpans w0 la ln lc f ma mn mc g := by
  obtain ⟨rfl, ⟨n0, n1⟩, hf⟩ := h
  obtain ⟨⟨_, _, hb⟩, ⟨_, _, hc⟩, _⟩ := hm
  refine ⟨n0, n0, nee rfl ⟨⟨0, ⟨by omega, n0⟩, by simp⟩, ?_⟩⟩
  rintro j ⟨j0, j1⟩
  have w2 : IntKind.i64.wrap (j + 1) = j + 1 := i64_id (by omega) (by omega)
  refine ⟨n0, br (fun cj => ⟨⟨j0, cj⟩, hb j j0 cj, ?_⟩) fun cj => rfl⟩
  rintro _ rfl
  refine ⟨⟨j0, cj⟩, hc j j0 cj, ?_⟩
  rintro _ rfl
  refine nee (hf j j0 cj) ?_
  rw [w2]
  rintro _ rfl
  exact ⟨j + 1, ⟨by omega, by omega⟩, by simp, by omega⟩
theorem spans_ok : SpecOkF Try.prog 11 spansSpec := by
  intro args k h
  unfold spansSpec at h
  split at h
  · rename_i la0 ln lc0 f ma0 mn mc0 g
    obtain ⟨hr, h⟩ := h
    refine ⟨_, h , fun w0 args' he0 hm => ?_⟩
    obtain ⟨la, lc, _, rfl, he1⟩ := eqBL_b he0
    obtain ⟨ma, mc, _, rfl, he2⟩ := eqBL_b he1
    obtain rfl := eqBL_n he2
    exact PureOkAt.of_tieF (GL Try.prog [] saAnnSpec []) (fun w__ => gokL w__ namesOk_ mixed_ trivial) (fun _ => rfl) (fun _ => rfl) (args' := [.bsl la ln lc [.int .i64 f], .bsl ma mn mc [.int .i64 g]]) ⟨⟨rfl, rfl, rfl⟩, ⟨rfl, rfl, rfl⟩, trivial⟩ 60 (fun w__ => VCSpans w__ la ln lc f ma mn mc g) (fun w__ => tieSpans w__ la ln lc f ma mn mc g) hm (fun w__ hm__ => pureSpans w__ la ln lc f ma mn mc g hr hm__)
  · exact h.elim

def sameSpec : CSpec := fun args k => match args, k with
  | [.bsl la0 ln lc0 [.int .i64 c, .int .i64 d, .int .i64 f, .int .i64 g, .int .i64 o, .str t, .int .i64 u], .bsl ma0 mn mc0 [.int .i64 C, .int .i64 D, .int .i64 F, .int .i64 G, .int .i64 O, .str T, .int .i64 U]], k => ((mn = ln ∧ (0 ≤ ln ∧ ln ≤ 1000) ∧ ∀ z, 0 ≤ z → z < ln → c z = C z ∧ d z = D z ∧ f z = F z ∧ g z = G z ∧ o z = O z ∧ t z = T z ∧ u z = U z)) ∧ (k (.bool (.lit true)))
  | _, _ => False
def VCSame (w0 : World) (la : Addr) (ln : Int) (lc : Nat) (c : Int → Int) (d : Int → Int) (f : Int → Int) (g : Int → Int) (o : Int → Int) (t : Int → ByteArray) (u : Int → Int) (ma : Addr) (mn : Int) (mc : Nat) (C : Int → Int) (D : Int → Int) (F : Int → Int) (G : Int → Int) (O : Int → Int) (T : Int → ByteArray) (U : Int → Int) : Prop :=
  (0 : Int) ≤ ln /\ (0 : Int) ≤ mn /\ ∀ v1, v1 = (ln != mn) -> (v1 = true -> false = true) /\ (v1 = false -> (∃ (x2 : Int), ((0 : Int) ≤ x2 /\ x2 ≤ ln) /\ ((la = la /\ ln = ln /\ lc = lc) /\ (ma = ma /\ mn = mn /\ mc = mc) /\ (0 : Int) = x2 /\ True) /\ True) /\ ∀ (v3 : Int), (0 : Int) ≤ v3 /\ v3 ≤ ln -> (0 : Int) ≤ ln /\ ∀ v4, v4 = decide (v3 < ln) -> (v4 = true -> ((0 : Int) ≤ v3 /\ v3 < ln) /\ BaseAt w0 la [FC.int IntKind.i64 c, FC.int IntKind.i64 d, FC.int IntKind.i64 f, FC.int IntKind.i64 g, FC.int IntKind.i64 o, FC.str t, FC.int IntKind.i64 u] v3 /\ ∀ v5, v5 = c v3 -> ∀ v6, v6 = d v3 -> ∀ v7, v7 = f v3 -> ∀ v8, v8 = g v3 -> ∀ v9, v9 = o v3 -> ∀ (v10 : ByteArray), v10 = t v3 -> ∀ v11, v11 = u v3 -> ((0 : Int) ≤ v3 /\ v3 < mn) /\ BaseAt w0 ma [FC.int IntKind.i64 C, FC.int IntKind.i64 D, FC.int IntKind.i64 F, FC.int IntKind.i64 G, FC.int IntKind.i64 O, FC.str T, FC.int IntKind.i64 U] v3 /\ ∀ v12, v12 = C v3 -> ∀ v13, v13 = D v3 -> ∀ v14, v14 = F v3 -> ∀ v15, v15 = G v3 -> ∀ v16, v16 = O v3 -> ∀ (v17 : ByteArray), v17 = T v3 -> ∀ v18, v18 = U v3 -> ∀ (v19 : Bool), v19 = !(v5 == v12 && (v6 == v13 && (v7 == v14 && (v8 == v15 && (v9 == v16 && (v10 == v17 && (v11 == v18 && true))))))) -> (v19 = true -> false = true) /\ (v19 = false -> ∀ v20, v20 = IntKind.i64.wrap (v3 + (1 : Int)) -> ∃ (x21 : Int), ((0 : Int) ≤ x21 /\ x21 ≤ ln) /\ (((la = la /\ ln = ln /\ lc = lc) /\ (ma = ma /\ mn = mn /\ mc = mc) /\ v20 = x21 /\ True) /\ True) /\ (ln - x21).toNat < (ln - v3).toNat)) /\ (v4 = false -> true = true))
theorem tieSame (w0 : World) (la : Addr) (ln : Int) (lc : Nat) (c : Int → Int) (d : Int → Int) (f : Int → Int) (g : Int → Int) (o : Int → Int) (t : Int → ByteArray) (u : Int → Int) (ma : Addr) (mn : Int) (mc : Nat) (C : Int → Int) (D : Int → Int) (F : Int → Int) (G : Int → Int) (O : Int → Int) (T : Int → ByteArray) (U : Int → Int) : VCSame w0 la ln lc c d f g o t u ma mn mc C D F G O T U = ((recN (GL Try.prog [] saAnnSpec [] w0) 60).call 12 [.bsl la ln lc [.int .i64 c, .int .i64 d, .int .i64 f, .int .i64 g, .int .i64 o, .str t, .int .i64 u], .bsl ma mn mc [.int .i64 C, .int .i64 D, .int .i64 F, .int .i64 G, .int .i64 O, .str T, .int .i64 U]] [] (fun r__ _ => eqV r__ (.bool (.lit true)))) := by kernel_rfl
theorem pureSame (w0 : World) (la : Addr) (ln : Int) (lc : Nat) (c d f g o : Int → Int) (t : Int → ByteArray) (u : Int → Int) (ma : Addr) (mn : Int) (mc : Nat) (C D F G O : Int → Int) (T : Int → ByteArray) (U : Int → Int) (h : mn = ln ∧ (0 ≤ ln ∧ ln ≤ 1000) ∧ ∀ z, 0 ≤ z → z < ln → c z = C z ∧ d z = D z ∧ f z = F z ∧ g z = G z ∧ o z = O z ∧ t z = T z ∧ u z = U z) (hm : (0 ≤ ln ∧ ln ≤ (lc : Int) ∧ ∀ i : Int, 0 ≤ i → i < ln → BaseAt w0 la [.int .i64 c, .int .i64 d, .int .i64 f, .int .i64 g, .int .i64 o, .str t, .int .i64 u] i) ∧ (0 ≤ mn ∧ mn ≤ (mc : Int) ∧ ∀ i : Int, 0 ≤ i → i < mn → BaseAt w0 ma [.int .i64 C, .int .i64 D, .int .i64 F, .int .i64 G, .int .i64 O, .str T, .int .i64 U] i) ∧ True) : VCSame w0 la ln lc c d f g o t u ma mn mc C D F G O T U := by
  obtain ⟨rfl, ⟨n0, n1⟩, hf⟩ := h
  obtain ⟨⟨_, _, hb⟩, ⟨_, _, hc⟩, _⟩ := hm
  refine ⟨n0, n0, nee rfl ⟨⟨0, ⟨by omega, n0⟩, by simp⟩, ?_⟩⟩
  rintro j ⟨j0, j1⟩
  have w2 : IntKind.i64.wrap (j + 1) = j + 1 := i64_id (by omega) (by omega)
  refine ⟨n0, br (fun cj => ⟨⟨j0, cj⟩, hb j j0 cj, ?_⟩) fun cj => rfl⟩
  rintro _ rfl _ rfl _ rfl _ rfl _ rfl _ rfl _ rfl
  refine ⟨⟨j0, cj⟩, hc j j0 cj, ?_⟩
  rintro _ rfl _ rfl _ rfl _ rfl _ rfl _ rfl _ rfl
  refine same7 (hf j j0 cj).1 (hf j j0 cj).2.1 (hf j j0 cj).2.2.1 (hf j j0 cj).2.2.2.1 (hf j j0 cj).2.2.2.2.1 (hf j j0 cj).2.2.2.2.2.1 (hf j j0 cj).2.2.2.2.2.2 ?_
  rw [w2]
  rintro _ rfl
  exact ⟨j + 1, ⟨by omega, by omega⟩, by simp, by omega⟩
theorem same_ok : SpecOkF Try.prog 12 sameSpec := by
  intro args k h
  unfold sameSpec at h
  split at h
  · rename_i la0 ln lc0 c d f g o t u ma0 mn mc0 C D F G O T U
    obtain ⟨hr, h⟩ := h
    refine ⟨_, h , fun w0 args' he0 hm => ?_⟩
    obtain ⟨la, lc, _, rfl, he1⟩ := eqBL_b he0
    obtain ⟨ma, mc, _, rfl, he2⟩ := eqBL_b he1
    obtain rfl := eqBL_n he2
    exact PureOkAt.of_tieF (GL Try.prog [] saAnnSpec []) (fun w__ => gokL w__ namesOk_ mixed_ trivial) (fun _ => rfl) (fun _ => rfl) (args' := [.bsl la ln lc [.int .i64 c, .int .i64 d, .int .i64 f, .int .i64 g, .int .i64 o, .str t, .int .i64 u], .bsl ma mn mc [.int .i64 C, .int .i64 D, .int .i64 F, .int .i64 G, .int .i64 O, .str T, .int .i64 U]]) ⟨⟨rfl, rfl, rfl⟩, ⟨rfl, rfl, rfl⟩, trivial⟩ 60 (fun w__ => VCSame w__ la ln lc c d f g o t u ma mn mc C D F G O T U) (fun w__ => tieSame w__ la ln lc c d f g o t u ma mn mc C D F G O T U) hm (fun w__ hm__ => pureSame w__ la ln lc c d f g o t u ma mn mc C D F G O T U hr hm__)
  · exact h.elim

def sameNSpec : CSpec := fun args k => match args, k with
  | [.val (.slice none 0 0), .val (.slice none 0 0)], k => (True) ∧ (k (.bool (.lit true)))
  | _, _ => False
def VCSameN : Prop :=
  (∃ (x1 : Int), ((0 : Int) ≤ x1 /\ x1 ≤ (0 : Int)) /\ (Value.slice none 0 0 = Value.slice none 0 0 /\ Value.slice none 0 0 = Value.slice none 0 0 /\ (0 : Int) = x1 /\ True) /\ True) /\ ∀ (v2 : Int), (0 : Int) ≤ v2 /\ v2 ≤ (0 : Int) -> ∀ v3, v3 = decide (v2 < (0 : Int)) -> (v3 = true -> False) /\ (v3 = false -> true = true)
theorem tieSameN (w0 : World)  : VCSameN  = ((recN (GL Try.prog [] saAnnSpec [] w0) 60).call 12 [.val (.slice none 0 0), .val (.slice none 0 0)] [] (fun r__ _ => eqV r__ (.bool (.lit true)))) := by kernel_rfl
theorem pureSameN (w0 : World) (h : True) (hm : True) : VCSameN := by
  unfold VCSameN
  refine ⟨⟨0, by omega, by simp⟩, ?_⟩
  rintro j ⟨j0, j1⟩
  refine br (fun cj => absurd cj (by omega)) fun _ => rfl
theorem sameN_ok : SpecOkF Try.prog 12 sameNSpec := by
  intro args k h
  unfold sameNSpec at h
  split at h
  · obtain ⟨hr, h⟩ := h
    refine ⟨_, h , fun w0 args' he0 hm => ?_⟩
    obtain ⟨_, rfl, he1⟩ := eqBL_v he0
    obtain ⟨_, rfl, he2⟩ := eqBL_v he1
    obtain rfl := eqBL_n he2
    exact PureOkAt.of_tieF (GL Try.prog [] saAnnSpec []) (fun w__ => gokL w__ namesOk_ mixed_ trivial) (fun _ => rfl) (fun _ => rfl) (args' := [.val (.slice none 0 0), .val (.slice none 0 0)]) ⟨rfl, rfl, trivial⟩ 60 (fun w__ => VCSameN ) (fun w__ => tieSameN w__ ) hm (fun w__ hm__ => pureSameN w__  hr hm__)
  · exact h.elim

def awakeSpec : CSpec
  | [], k => (True) ∧ (k (.bool (.lit true)))
  | _, _ => False
def VCAwake : Prop :=
  U64 0 /\ ∀ (v1 : Int), v1 = (16294208416658607535 : Int) -> ∀ v2, v2 = (v1 == (16294208416658607535 : Int)) -> (v2 = true -> ∀ (v3 : Bool), v3 = true -> (v3 = true -> ∀ (v4 : Bool), v4 = true -> v4 = true) /\ (v3 = false -> false = true)) /\ (v2 = false -> false = true)
theorem tieAwake (w0 : World)  : VCAwake  = ((recN (GC Try.prog awkSpec w0) 60).call 17 [] [] (fun r__ _ => eqV r__ (.bool (.lit true)))) := by kernel_rfl
theorem pureAwake (h : True) : VCAwake := by
  unfold VCAwake
  refine ⟨by unfold U64; decide, ?_⟩
  rintro _ rfl
  simp
theorem awake_ok : SpecOk Try.prog 17 awakeSpec := by
  intro args k h
  unfold awakeSpec at h
  split at h
  · obtain ⟨hr, h⟩ := h
    exact ⟨_, h , PureOk.of_tie (GC Try.prog awkSpec) (fun w__ => gok w__ namesOk_ mixed_ awk_ok) (fun _ => rfl) (fun _ => rfl) (args' := []) trivial 60 (fun w__ => VCAwake ) (fun w__ => tieAwake w__ ) (fun w__ => pureAwake  hr)⟩
  · exact h.elim

end Go.Proofs.Ytifbolmkiafmgaa.A
