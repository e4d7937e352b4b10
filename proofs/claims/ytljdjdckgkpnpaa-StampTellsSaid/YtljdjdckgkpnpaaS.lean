/- The laws of stamps that need no document: their walks, and what these ask of numbers. -/
import Derived.Test.YtljdjdckgkpnpaaSxN
import Derived.Test.YtljdjdckgkpnpaaSxP
import Derived.Test.YtljdjdckgkpnpaaProg
import Derived.Test.YtljdjdckgkpnpaaC
import Derived.KernelRfl
namespace Go.Proofs.Ytljdjdckgkpnpaa.S
open Go Go.Sx Go.RowKit Go.Proofs.Ytljdjdckgkpnpaa.C
set_option linter.unusedVariables false
set_option maxRecDepth 100000
def awakesSpec : List (FuncId × CSpec) := [(13, ofSpec), (16, shortSpec), (12, measureSpec), (9, scaledSpec)]
theorem awakes_ok : SpecsOk Try.prog awakesSpec := ⟨of_ok, short_ok, measure_ok, scaled_ok, trivial⟩
def awakeSpec : CSpec
  | [], k => (True) ∧ (k (.bool (.lit true)))
  | _, _ => False
def VCAwake : Prop :=
  (((-9223372036854775808 : Int) ≤ (0 : Int) ∧ (0 : Int) ≤ (9223372036854775807 : Int)) ∧ (-9223372036854775808 : Int) ≤ (0 : Int) ∧ (0 : Int) ≤ (9223372036854775807 : Int)) ∧ ∀ (v1 : Int), v1 = (9487534653230284800 : Int) → ∀ (v2 : Bool), v2 = (v1 == (9487534653230284800 : Int)) → (v2 = true → (((0 : Int) ≤ (0 : Int) ∧ (0 : Int) ≤ (18446744073709551615 : Int)) ∧ ((0 : Int) ≤ (42949672960 : Int) ∧ (42949672960 : Int) ≤ (18446744073709551615 : Int)) ∧ ((0 : Int) ≤ (42949672960 : Int) ∧ (42949672960 : Int) ≤ (18446744073709551615 : Int)) ∧ (0 : Int) ≤ (17179869184 : Int) ∧ (17179869184 : Int) ≤ (18446744073709551615 : Int)) ∧ ∀ (v3 : Int), v3 = (34359738368 : Int) → ∀ (v4 : Int), v4 = (17179869184 : Int) → ∀ (v5 : Bool), v5 = (v3 == (34359738368 : Int) && (v4 == (17179869184 : Int) && true)) → (v5 = true → ((-9223372036854775808 : Int) ≤ (1 : Int) ∧ (1 : Int) ≤ (9223372036854775807 : Int)) ∧ ∀ (v6 : Int), v6 = (1 : Int) → ∀ (v7 : Bool), v7 = (v6 == (1 : Int)) → (v7 = true → (((-9223372036854775808 : Int) ≤ (1000000 : Int) ∧ (1000000 : Int) ≤ (9223372036854775807 : Int)) ∧ (-9223372036854775808 : Int) ≤ (15 : Int) ∧ (15 : Int) ≤ (9223372036854775807 : Int)) ∧ ∀ (v8 : Int), v8 = (15 : Int) → ∀ (v9 : Bool), v9 = (v8 == (15 : Int)) → v9 = true) ∧ (v7 = false → false = true)) ∧ (v5 = false → false = true)) ∧ (v2 = false → false = true)
theorem tieAwake (w0 : World)  : VCAwake  = ((recN (GC Try.prog awakesSpec w0) 20).call 8 [] [] (fun u _ => eqV u (.bool (.lit true)))) := by kernel_rfl
theorem pureAwake (h : True) : VCAwake := by
  unfold VCAwake
  simp
theorem awake_ok : SpecOk Try.prog 8 awakeSpec := by
  intro args k h
  unfold awakeSpec at h
  split at h
  · obtain ⟨hr, h⟩ := h
    exact ⟨_, h , PureOk.of_tie (GC Try.prog awakesSpec) (fun w => gok w namesOk_ mixed_ awakes_ok) (fun _ => rfl) (fun _ => rfl) (args' := []) trivial 20 (fun w => VCAwake ) (fun w => tieAwake w ) (fun w => pureAwake  hr)⟩
  · exact h.elim

end Go.Proofs.Ytljdjdckgkpnpaa.S
