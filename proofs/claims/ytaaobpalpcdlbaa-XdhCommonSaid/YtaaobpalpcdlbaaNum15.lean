import Derived.Test.YtaaobpalpcdlbaaSxN
import Derived.Test.YtaaobpalpcdlbaaSxP
import Derived.Test.YtaaobpalpcdlbaaProg
import Derived.Test.YtaaobpalpcdlbaaNum14
import Derived.KernelRfl
namespace Go.Proofs.Ytaaobpalpcdlbaa.Bits
open Go Go.Sx Go.RowKit
set_option linter.unusedVariables false
set_option maxRecDepth 100000
def md5Spec : List (FuncId × CSpec) := [(24, mMulSpec), (32, mSubSpec), (18, mInvSpec), (20, mPowSpec)]
theorem md5_ok : SpecsOk Try.prog md5Spec := ⟨mMul_ok, mSub_ok, mInv_ok, mPow_ok, trivial⟩
def awake2Spec : CSpec
  | [], k => (True) ∧ (k (.bool (.lit true)))
  | _, _ => False
def VCAwake2 : Prop :=
  (U64 2 /\ U64 0 /\ U64 0 /\ U64 0 /\ U64 9 /\ U64 0 /\ U64 0 /\ U64 0) /\ ∀ v1, v1 = invF (2 : Int) (9 : Int) -> ∀ (v2 : Bool), v2 = true -> (U64 3 /\ U64 0 /\ U64 0 /\ U64 0 /\ U64 9 /\ U64 0 /\ U64 0 /\ U64 0) /\ ∀ v3, v3 = invF (3 : Int) (9 : Int) -> ∀ (v4 : Bool), v4 = false -> (U64 5 /\ U64 0 /\ U64 0 /\ U64 0 /\ U64 7 /\ U64 0 /\ U64 0 /\ U64 0 /\ U64 9 /\ U64 0 /\ U64 0 /\ U64 0) /\ ∀ (v5 : Int), v5 = (8 : Int) -> ∀ v6, v6 = (limb v5 0 == (8 : Int) && (limb v5 1 == (0 : Int) && (limb v5 2 == (0 : Int) && (limb v5 3 == (0 : Int) && true)))) -> (v6 = true -> ∀ v7, v7 = (limb v1 0 == (5 : Int) && (limb v1 1 == (0 : Int) && (limb v1 2 == (0 : Int) && (limb v1 3 == (0 : Int) && true)))) -> (v7 = true -> (v2 = true -> ∀ (v8 : Bool), v8 = !v4 -> (v8 = true -> (U64 2 /\ U64 0 /\ U64 0 /\ U64 0 /\ U64 5 /\ U64 0 /\ U64 0 /\ U64 0 /\ U64 9 /\ U64 0 /\ U64 0 /\ U64 0) /\ ∀ (v9 : Int), v9 = (6 : Int) -> ∀ v10, v10 = (limb v9 0 == (6 : Int) && (limb v9 1 == (0 : Int) && (limb v9 2 == (0 : Int) && (limb v9 3 == (0 : Int) && true)))) -> (v10 = true -> (U64 2 /\ U64 0 /\ U64 0 /\ U64 0 /\ U64 10 /\ U64 0 /\ U64 0 /\ U64 0 /\ U64 1000 /\ U64 0 /\ U64 0 /\ U64 0) /\ ∀ (v11 : Int), v11 = (24 : Int) -> ∀ v12, v12 = (limb v11 0 == (24 : Int) && (limb v11 1 == (0 : Int) && (limb v11 2 == (0 : Int) && (limb v11 3 == (0 : Int) && true)))) -> v12 = true) /\ (v10 = false -> false = true)) /\ (v8 = false -> false = true)) /\ (v2 = false -> false = true)) /\ (v7 = false -> false = true)) /\ (v6 = false -> false = true)
theorem tieAwake2 (w0 : World)  : VCAwake2  = ((recN (GC Try.prog md5Spec w0) 40).call 22 [] [] (fun r__ _ => eqV r__ (.bool (.lit true)))) := by kernel_rfl
theorem pureAwake2 (h : True) : VCAwake2 := by
  have i1 : invF 2 9 = 5 := invF_eq (by omega) (by omega) ⟨1, by omega⟩
  unfold VCAwake2
  refine ⟨by unfold U64; omega, fun v1 h1 v2 h2 => ⟨by unfold U64; omega, fun v3 h3 v4 h4 => ⟨by unfold U64; omega, fun v5 h5 v6 h6 => ?_⟩⟩⟩
  rw [i1] at h1
  subst h1 h2 h4 h5 h6
  refine ⟨fun _ v7 h7 => ⟨fun _ => ⟨fun _ v8 h8 => ⟨fun _ => ⟨by unfold U64; omega, fun v9 h9 v10 h10 => ⟨fun _ => ⟨by unfold U64; omega, fun v11 h11 v12 h12 => ?_⟩, fun e => ?_⟩⟩, fun e => ?_⟩, fun e => ?_⟩, fun e => ?_⟩, fun e => ?_⟩
  · rw [h12, h11]; decide
  · rw [h10, h9] at e; exact absurd e (by decide)
  · rw [h8] at e; cases e
  · cases e
  · rw [h7] at e; exact absurd e (by decide)
  · exact absurd e (by decide)
theorem awake2_ok : SpecOk Try.prog 22 awake2Spec := by
  intro args k h
  unfold awake2Spec at h
  split at h
  · obtain ⟨hr, h⟩ := h
    exact ⟨_, h , PureOk.of_tie (GC Try.prog md5Spec) (fun w__ => gok w__ namesOk_ mixed_ md5_ok) (fun _ => rfl) (fun _ => rfl) (args' := []) trivial 40 (fun w__ => VCAwake2 ) (fun w__ => tieAwake2 w__ ) (fun w__ => pureAwake2  hr)⟩
  · exact h.elim

end Go.Proofs.Ytaaobpalpcdlbaa.Bits
