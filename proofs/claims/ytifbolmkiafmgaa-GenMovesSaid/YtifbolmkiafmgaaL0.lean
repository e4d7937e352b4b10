import Derived.Test.YtifbolmkiafmgaaSxR
import Derived.Test.YtifbolmkiafmgaaSxU
import Derived.Test.YtifbolmkiafmgaaProg
import Derived.Test.YtifbolmkiafmgaaM
import Derived.Test.YtifbolmkiafmgaaP
import Derived.KernelRfl
namespace Go.Proofs.Ytifbolmkiafmgaa.A
open Go Go.Sx Go.RowKit
set_option linter.unusedVariables false
set_option maxRecDepth 100000
def gvSpec : List (FuncId × CSpec) := [(31, ofxSpec), (17, awakeSpec)]
theorem gv_ok : SpecsOk Try.prog gvSpec := ⟨ofx_ok, awake_ok, trivial⟩
def gvFSpec : List (FuncId × CSpec) := [(22, fitsSpec)]
theorem gvF_ok : SpecsOkF Try.prog gvFSpec := ⟨fits_ok, trivial⟩
def gvaFSpec : List (FuncId × CSpec) := [(22, fitsSpec), (12, sameSpec)]
theorem gvaF_ok : SpecsOkF Try.prog gvaFSpec := ⟨fits_ok, same_ok, trivial⟩
def gvcRSpec : List (FuncId × RSpec) := [(5, clocksSpec), (13, movesNSpec)]
theorem gvcR_ok : SpecsOkR Try.prog gvcRSpec := ⟨clocks_ok, movesN_ok, trivial⟩
def gvaRSpec : List (FuncId × RSpec) := [(5, clocksSpec), (13, movesSpec)]
theorem gvaR_ok : SpecsOkR Try.prog gvaRSpec := ⟨clocks_ok, moves_ok, trivial⟩
def movesBSpec : RSpec := fun args k => match args with
  | [.int .u64 s, .int .i64 n] => ∀ v : Bool, v = decide (1 ≤ n.val) → (v = true → movesSpec [.int .u64 s, .int .i64 n] k) ∧ (v = false → movesNSpec [.int .u64 s, .int .i64 n] k)
  | _ => False
theorem movesB_ok : SpecOkR Try.prog 13 movesBSpec := by
  intro args k h
  unfold movesBSpec at h
  split at h
  · rename_i s n
    by_cases c : 1 ≤ n.val
    · exact moves_ok _ _ ((h _ rfl).1 (decide_eq_true c))
    · exact movesN_ok _ _ ((h _ rfl).2 (decide_eq_false c))
  · exact h.elim
def gvbRSpec : List (FuncId × RSpec) := [(5, clocksSpec), (13, movesBSpec)]
theorem gvbR_ok : SpecsOkR Try.prog gvbRSpec := ⟨clocks_ok, movesB_ok, trivial⟩
def gvSplSpec : Spls := [(18, 4, [(1, [1, 2, 3])]), (18, 14, [(2, [1, 2])])]
def gvASpec : St → Inv := fun S =>
  { ι := Int
    T := fun i => stS (keepS S [0, 6, 51, 52]) [(53, .int .i64 (.sym i))]
    R := fun i => 0 ≤ i ∧ i ≤ slnAtSpec S 51
    μ := fun i => (slnAtSpec S 51 - i).toNat }
def gvAnnSpec : Anns := [(4, 0, gvASpec)]
--@PLAIN
theorem nef {x y : Int} {A B : Prop} (e : x = y) (hA : A) : ∀ v : Bool, v = (x != y) → (v = false → A) ∧ (v = true → B) := by
  rintro _ rfl
  subst e
  simp [hA]
theorem clkN_in (s o j : Int) : -1099511627776 ≤ clkN s o j ∧ clkN s o j ≤ 1099511627776 := by
  unfold clkN
  omega
theorem mvK_in (s j : Int) : 1 ≤ mvK s j ∧ mvK s j < 12 := by unfold mvK; omega
theorem of_len1 : ((45 + (ofF otx1).size : Nat) : Int) ≤ 9223372036854775807 := by rw [of_size1]; decide
theorem of_len2 : ((45 + (ofF otx2).size : Nat) : Int) ≤ 9223372036854775807 := by rw [of_size2]; decide
theorem of_len3 : ((45 + (ofF otx3).size : Nat) : Int) ≤ 9223372036854775807 := by rw [of_size3]; decide
def sameMSpec : CSpec := fun args k => match args, k with
  | [.val (.slice none 0 0), .bsl ma0 mn mc0 [.int .i64 C, .int .i64 D, .int .i64 F, .int .i64 G, .int .i64 O, .str T, .int .i64 U]], k => ((mn = 0)) ∧ (k (.bool (.lit true)))
  | _, _ => False
def VCSameM (mn : Int) : Prop :=
  (0 : Int) ≤ mn /\ ∀ v1, v1 = ((0 : Int) != mn) -> (v1 = true -> false = true) /\ (v1 = false -> true = true)
theorem tieSameM (w0 : World) (ma : Addr) (mn : Int) (mc : Nat) (C : Int → Int) (D : Int → Int) (F : Int → Int) (G : Int → Int) (O : Int → Int) (T : Int → ByteArray) (U : Int → Int) : VCSameM mn = ((recN (GC Try.prog [] w0) 60).call 12 [.val (.slice none 0 0), .bsl ma mn mc [.int .i64 C, .int .i64 D, .int .i64 F, .int .i64 G, .int .i64 O, .str T, .int .i64 U]] [] (fun r__ _ => eqV r__ (.bool (.lit true)))) := by kernel_rfl
theorem pureSameM (w0 : World) (ma : Addr) (mn : Int) (mc : Nat) (C D F G O : Int → Int) (T : Int → ByteArray) (U : Int → Int) (h : mn = 0) (hm : (0 ≤ mn ∧ mn ≤ (mc : Int) ∧ ∀ i : Int, 0 ≤ i → i < mn → BaseAt w0 ma [.int .i64 C, .int .i64 D, .int .i64 F, .int .i64 G, .int .i64 O, .str T, .int .i64 U] i) ∧ True) : VCSameM mn := by
  unfold VCSameM
  subst h
  simp
theorem sameM_ok : SpecOkF Try.prog 12 sameMSpec := by
  intro args k h
  unfold sameMSpec at h
  split at h
  · rename_i ma0 mn mc0 C D F G O T U
    obtain ⟨hr, h⟩ := h
    refine ⟨_, h , fun w0 args' he0 hm => ?_⟩
    obtain ⟨_, rfl, he1⟩ := eqBL_v he0
    obtain ⟨ma, mc, _, rfl, he2⟩ := eqBL_b he1
    obtain rfl := eqBL_n he2
    exact PureOkAt.of_tieF (GC Try.prog []) (fun w__ => gok w__ namesOk_ mixed_ trivial) (fun _ => rfl) (fun _ => rfl) (args' := [.val (.slice none 0 0), .bsl ma mn mc [.int .i64 C, .int .i64 D, .int .i64 F, .int .i64 G, .int .i64 O, .str T, .int .i64 U]]) ⟨rfl, ⟨rfl, rfl, rfl⟩, trivial⟩ 60 (fun w__ => VCSameM mn) (fun w__ => tieSameM w__ ma mn mc C D F G O T U) hm (fun w__ hm__ => pureSameM w__ ma mn mc C D F G O T U hr hm__)
  · exact h.elim

end Go.Proofs.Ytifbolmkiafmgaa.A
