import Derived.Test.YtifbolmkiafmgaaSxR
import Derived.Test.YtifbolmkiafmgaaSxU
import Derived.Test.YtifbolmkiafmgaaProg
import Derived.Test.YtifbolmkiafmgaaH
import Derived.KernelRfl
namespace Go.Proofs.Ytifbolmkiafmgaa.A
open Go Go.Sx Go.RowKit
set_option linter.unusedVariables false
set_option maxRecDepth 100000
def mvFixSpec : Fixs := [(13, 13, false)]
--@PLAIN
def movesNSpec : RSpec := fun args k => match args, k with
  | [.int .u64 s, .int .i64 n], k => ((U64 s.val) ∧ (I64 n.val) ∧ (n.val ≤ 0)) ∧ (k [.v (.val (.slice none 0 0))])
  | _, _ => False
def VCMovesN (n : Int) : Prop :=
  ∀ (v1 : Int), (v1 = if (0 : Int) > n then (0 : Int) else n) -> ∀ (v2 : Int), (v2 = if (64 : Int) < v1 then (64 : Int) else v1) -> ∀ v3, v3 = decide ((0 : Int) < v2) -> v3 = false /\ Value.slice none 0 0 = Value.slice none 0 0 /\ True
theorem tieMovesN (w0 : World) (s : Int) (n : Int) : VCMovesN n = ((recN (GR Try.prog [] [] [] [] [] [] [] [] mvFixSpec [] w0) 60).call 13 [.int .u64 (.sym s), .int .i64 (.sym n)] [] (fun r__ h__ => eqR h__ r__ [.v (.val (.slice none 0 0))])) := by kernel_rfl
theorem pureMovesN (w0 : World) (s n : Int) (h : U64 s ∧ I64 n ∧ n ≤ 0) (hm : True) : VCMovesN n := by
  unfold VCMovesN
  intro v1 h1 v2 h2 v3 h3
  refine ⟨?_, ?_⟩
  · rw [h3]; exact decide_eq_false (by omega)
  · simp
theorem movesN_ok : SpecOkR Try.prog 13 movesNSpec := by
  intro args k h
  unfold movesNSpec at h
  split at h
  · rename_i s n
    obtain ⟨hr, h⟩ := h
    refine ⟨_, h , fun w0 args' he0 hm => ?_⟩
    obtain ⟨_, rfl, he1⟩ := eqBL_i he0
    obtain ⟨_, rfl, he2⟩ := eqBL_i he1
    obtain rfl := eqBL_n he2
    exact RunOk.of_tie (GR Try.prog [] [] [] [] [] [] [] [] mvFixSpec []) (fun w__ => gokR w__ namesOk_ mixed_ trivial trivial trivial trivial) (fun _ => rfl) (fun _ => rfl) (args' := [.int .u64 (.sym s.val), .int .i64 (.sym n.val)]) ⟨⟨rfl, rfl⟩, ⟨rfl, rfl⟩, trivial⟩ 60 (fun w__ => VCMovesN n.val) (fun w__ => tieMovesN w__ s.val n.val) hm (fun w__ hm__ => pureMovesN w__ s.val n.val hr hm__)
  · exact h.elim

end Go.Proofs.Ytifbolmkiafmgaa.A
