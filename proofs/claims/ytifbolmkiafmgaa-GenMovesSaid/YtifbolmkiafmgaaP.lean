import Derived.Test.YtifbolmkiafmgaaSxR
import Derived.Test.YtifbolmkiafmgaaSxU
import Derived.Test.YtifbolmkiafmgaaProg
import Derived.Test.YtifbolmkiafmgaaO1
import Derived.Test.YtifbolmkiafmgaaO2
import Derived.Test.YtifbolmkiafmgaaO3
import Derived.KernelRfl
namespace Go.Proofs.Ytifbolmkiafmgaa.A
open Go Go.Sx Go.RowKit
set_option linter.unusedVariables false
set_option maxRecDepth 100000
noncomputable def ofK (s : ByteArray) : ByteArray := if s = otx1 then oF opd1 else if s = otx2 then oF opd2 else oF opd3
theorem of_ex : ∃ F : ByteArray → ByteArray, F = ofK := ⟨_, rfl⟩
noncomputable def ofF : ByteArray → ByteArray := Classical.choose of_ex
theorem ofF_eq : ofF = ofK := Classical.choose_spec of_ex
theorem ofF1 : ofF otx1 = oF opd1 := by rw [ofF_eq]; exact if_pos rfl
theorem ofF2 : ofF otx2 = oF opd2 := by rw [ofF_eq]; unfold ofK; rw [if_neg (by decide +kernel), if_pos rfl]
theorem ofF3 : ofF otx3 = oF opd3 := by rw [ofF_eq]; unfold ofK; rw [if_neg (by decide +kernel), if_neg (by decide +kernel)]
def ofxSpec : CSpec
  | [.str s], k => (s.val = otx1 ∨ s.val = otx2 ∨ s.val = otx3) ∧ (∀ v : ByteArray, v = ofF s.val → k (.str (.sym v)))
  | _, _ => False
--@PLAIN
theorem of_size1 : (ofF otx1).size = 32 := by rw [ofF1, oF_eq]; rfl
theorem of_size2 : (ofF otx2).size = 32 := by rw [ofF2, oF_eq]; rfl
theorem of_size3 : (ofF otx3).size = 32 := by rw [ofF3, oF_eq]; rfl
theorem ofx_ok : SpecOk Try.prog 31 ofxSpec := by
  intro args k h
  unfold ofxSpec at h
  split at h
  · rename_i s
    obtain ⟨hs, h⟩ := h
    rcases hs with hs | hs | hs
    · exact ⟨_, h _ ((congrArg ofF hs).trans ofF1).symm, PureOk.of_tie (GC Try.prog ofSpec) (fun w__ => gok w__ namesOk_ mixed_ ofs_ok) (fun _ => rfl) (fun _ => rfl) (args' := [.str (.lit (bytesL [0, 0, 0, 2, 1, 0, 0, 0, 0, 0, 0, 0, 0, 0, 0, 0, 0, 0, 0, 0, 1, 0, 0, 0, 0, 0, 0, 0, 0, 0, 0, 0, 0, 0, 0, 0, 0, 0, 0, 0, 0, 0, 0, 0, 0]))]) ⟨hs, trivial⟩ 200 (fun w__ => VCOf1) (fun w__ => tieOf1 w__) (fun w__ => pureOf1)⟩
    · exact ⟨_, h _ ((congrArg ofF hs).trans ofF2).symm, PureOk.of_tie (GC Try.prog ofSpec) (fun w__ => gok w__ namesOk_ mixed_ ofs_ok) (fun _ => rfl) (fun _ => rfl) (args' := [.str (.lit (bytesL [0, 0, 0, 2, 1, 0, 0, 0, 0, 0, 0, 0, 0, 0, 0, 0, 0, 0, 0, 0, 2, 0, 0, 0, 0, 0, 0, 0, 0, 0, 0, 0, 0, 0, 0, 0, 0, 0, 0, 0, 0, 0, 0, 0, 0]))]) ⟨hs, trivial⟩ 200 (fun w__ => VCOf2) (fun w__ => tieOf2 w__) (fun w__ => pureOf2)⟩
    · exact ⟨_, h _ ((congrArg ofF hs).trans ofF3).symm, PureOk.of_tie (GC Try.prog ofSpec) (fun w__ => gok w__ namesOk_ mixed_ ofs_ok) (fun _ => rfl) (fun _ => rfl) (args' := [.str (.lit (bytesL [0, 0, 0, 2, 1, 0, 0, 0, 0, 0, 0, 0, 0, 0, 0, 0, 0, 0, 0, 0, 3, 0, 0, 0, 0, 0, 0, 0, 0, 0, 0, 0, 0, 0, 0, 0, 0, 0, 0, 0, 0, 0, 0, 0, 0]))]) ⟨hs, trivial⟩ 200 (fun w__ => VCOf3) (fun w__ => tieOf3 w__) (fun w__ => pureOf3)⟩
  · exact h.elim
end Go.Proofs.Ytifbolmkiafmgaa.A
