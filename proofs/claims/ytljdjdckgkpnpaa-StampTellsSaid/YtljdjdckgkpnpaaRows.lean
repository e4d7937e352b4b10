/-
  No cell of these rows narrows 'for every input' (looked for: loops, veiled, ifaces, maps, wideKeys, modest, calm, conditions, laid).
  DERIVED. THE GIVEN ROWS OF THIS SEAT. 5 by the template 'for every input the law returns true; each argument reads behind the call as it read before'; 0 by the template 'total and deterministic' (their statements: YtljdjdckgkpnpaaTotals.lean).
  GIVEN WITH THE SEED: the statements are not yours to turn. If you find one false, say at which input.
  Laid BY PROGRAM, IN A SANDBOX (cutbox-rows.mjs): the forced cells as the released guide's own fill.sh prints them over the translation e76df45e5f06db75… (all of the seat's roots in one cut). By AI agents, Wed Nov 11 2026. No macro, syntax, notation, axiom, sorry.
-/
import Derived.Test.YtljdjdckgkpnpaaChecked
import GoSem.Claim
import GoSem.ClaimJoined
import GoSem.ClaimMapViews
import Derived.JoinedTies
import Derived.KernelRfl
namespace Go.Proofs.Ytljdjdckgkpnpaa
/- THE CELL 'sum', in the pinned program and in every row, IS THE sha256 OF THE DUMP (.gsa) THAT YtljdjdckgkpnpaaProg.lean LOADS. Nothing in Lean hashes anything: it is a label: what it is worth is what the hold of that sum in a sandbox is worth. -/
noncomputable def Try.pinned : Pinned := { name := "ytljdjdckgkpnpaa", sum := "e76df45e5f06db75b2597d52dd40b6a3c8bd1ffae74453d35153376dc40d591f", checked := Try.checked }
namespace Rows
def none {H : Type} : Left H := { results := [], args := [] }

/-- 'pendulumlaw20.StampScales': WHATEVER THE INPUT: true; the input reads as it did. -/
def stampScalesSpec : ChangeSpec := { name := "stampScales", fn := fun _ => fun
  | [d1, d2] => { results := [.lit (.bool true)], args := [d1, d2] }
  | _ => none }
def stampScalesRow : OpenClaim := { program := "ytljdjdckgkpnpaa", sum := "e76df45e5f06db75b2597d52dd40b6a3c8bd1ffae74453d35153376dc40d591f", func := "pendulum/pendulumlaw20.StampScales", spec := "stampScales", unfollowed := true, recurses := true, apart := false }
def StampScalesSaid : Prop := stampScalesRow.holds Try.pinned (OpenSpec.ofChange stampScalesSpec)

/-- ITS FALSE NEIGHBOUR: 'it returns false'. Refute it at one input. -/
def stampScalesWrong : ChangeSpec := { name := "stampScales", fn := fun _ => fun
  | [d1, d2] => { results := [.lit (.bool false)], args := [d1, d2] }
  | _ => none }
def StampScalesWrongFalsely : Prop := stampScalesRow.holds Try.pinned (OpenSpec.ofChange stampScalesWrong)

/-- 'pendulumlaw20.StampUndoes': WHATEVER THE INPUT: true; the input reads as it did. -/
def stampUndoesSpec : ChangeSpec := { name := "stampUndoes", fn := fun _ => fun
  | [d1, d2, d3] => { results := [.lit (.bool true)], args := [d1, d2, d3] }
  | _ => none }
def stampUndoesRow : OpenClaim := { program := "ytljdjdckgkpnpaa", sum := "e76df45e5f06db75b2597d52dd40b6a3c8bd1ffae74453d35153376dc40d591f", func := "pendulum/pendulumlaw20.StampUndoes", spec := "stampUndoes", unfollowed := true, recurses := true, apart := false }
def StampUndoesSaid : Prop := stampUndoesRow.holds Try.pinned (OpenSpec.ofChange stampUndoesSpec)

/-- ITS FALSE NEIGHBOUR: 'it returns false'. Refute it at one input. -/
def stampUndoesWrong : ChangeSpec := { name := "stampUndoes", fn := fun _ => fun
  | [d1, d2, d3] => { results := [.lit (.bool false)], args := [d1, d2, d3] }
  | _ => none }
def StampUndoesWrongFalsely : Prop := stampUndoesRow.holds Try.pinned (OpenSpec.ofChange stampUndoesWrong)

/-- 'pendulumlaw20.StampOffset': WHATEVER THE INPUT: true; the input reads as it did. -/
def stampOffsetSpec : ChangeSpec := { name := "stampOffset", fn := fun _ => fun
  | [d1, d2, d3, d4] => { results := [.lit (.bool true)], args := [d1, d2, d3, d4] }
  | _ => none }
def stampOffsetRow : OpenClaim := { program := "ytljdjdckgkpnpaa", sum := "e76df45e5f06db75b2597d52dd40b6a3c8bd1ffae74453d35153376dc40d591f", func := "pendulum/pendulumlaw20.StampOffset", spec := "stampOffset", unfollowed := true, recurses := true, apart := false }
def StampOffsetSaid : Prop := stampOffsetRow.holds Try.pinned (OpenSpec.ofChange stampOffsetSpec)

/-- ITS FALSE NEIGHBOUR: 'it returns false'. Refute it at one input. -/
def stampOffsetWrong : ChangeSpec := { name := "stampOffset", fn := fun _ => fun
  | [d1, d2, d3, d4] => { results := [.lit (.bool false)], args := [d1, d2, d3, d4] }
  | _ => none }
def StampOffsetWrongFalsely : Prop := stampOffsetRow.holds Try.pinned (OpenSpec.ofChange stampOffsetWrong)

/-- 'pendulumlaw20.StampTimes': WHATEVER THE INPUT: true; the input reads as it did. -/
def stampTimesSpec : ChangeSpec := { name := "stampTimes", fn := fun _ => fun
  | [d1, d2, d3, d4] => { results := [.lit (.bool true)], args := [d1, d2, d3, d4] }
  | _ => none }
def stampTimesRow : OpenClaim := { program := "ytljdjdckgkpnpaa", sum := "e76df45e5f06db75b2597d52dd40b6a3c8bd1ffae74453d35153376dc40d591f", func := "pendulum/pendulumlaw20.StampTimes", spec := "stampTimes", unfollowed := true, recurses := true, apart := false }
def StampTimesSaid : Prop := stampTimesRow.holds Try.pinned (OpenSpec.ofChange stampTimesSpec)

/-- ITS FALSE NEIGHBOUR: 'it returns false'. Refute it at one input. -/
def stampTimesWrong : ChangeSpec := { name := "stampTimes", fn := fun _ => fun
  | [d1, d2, d3, d4] => { results := [.lit (.bool false)], args := [d1, d2, d3, d4] }
  | _ => none }
def StampTimesWrongFalsely : Prop := stampTimesRow.holds Try.pinned (OpenSpec.ofChange stampTimesWrong)

/-- 'pendulumlaw20.StampTells': WHATEVER THE INPUT: true; the input reads as it did. -/
def stampTellsSpec : ChangeSpec := { name := "stampTells", fn := fun _ => fun
  | [d1, d2, d3, d4, d5, d6, d7, d8] => { results := [.lit (.bool true)], args := [d1, d2, d3, d4, d5, d6, d7, d8] }
  | _ => none }
def stampTellsRow : OpenClaim := { program := "ytljdjdckgkpnpaa", sum := "e76df45e5f06db75b2597d52dd40b6a3c8bd1ffae74453d35153376dc40d591f", func := "pendulum/pendulumlaw20.StampTells", spec := "stampTells", unfollowed := true, recurses := true, named := ["math/bits.divideError", "math/bits.overflowError"], apart := false }
def StampTellsSaid : Prop := stampTellsRow.holds Try.pinned (OpenSpec.ofChange stampTellsSpec)

/-- ITS FALSE NEIGHBOUR: 'it returns false'. Refute it at one input. -/
def stampTellsWrong : ChangeSpec := { name := "stampTells", fn := fun _ => fun
  | [d1, d2, d3, d4, d5, d6, d7, d8] => { results := [.lit (.bool false)], args := [d1, d2, d3, d4, d5, d6, d7, d8] }
  | _ => none }
def StampTellsWrongFalsely : Prop := stampTellsRow.holds Try.pinned (OpenSpec.ofChange stampTellsWrong)

/- THE SECOND FORM. 'bulk': how many values and letters a reading holds, each counted each time it is reached (what is shared counts as often as it is met; a slice's spare places count too). A statement '..UptoSaid' is the law's where the arguments, and the package variables that the reading takes, are together of bulk at most 1048576: NARROWER than '..Said'. Prove '..Said' where nothing that the law and all that it calls make is longer than what came in: it says more and counts as full. Else prove '..UptoSaid'. A law counts once. -/
mutual
def uptoBulk {H : Type} : DataW H → Nat
  | .lit (.string bytes) => bytes.length + 1
  | .lit _ => 1
  | .nil => 1
  | .ptr d => uptoBulk d + 1
  | .slice elems spare => uptoBulkAll elems + uptoBulkAll spare + 1
  | .agg parts => uptoBulkAll parts + 1
  | .iface _ d => uptoBulk d + 1
  | .map entries => uptoBulkEntries entries + 1
  | .held _ => 1
def uptoBulkAll {H : Type} : List (DataW H) → Nat
  | [] => 0
  | d :: r => uptoBulk d + uptoBulkAll r
def uptoBulkEntries {H : Type} : List (Lit × DataW H) → Nat
  | [] => 0
  | x :: r => uptoBulkEntry x + uptoBulkEntries r
def uptoBulkEntry {H : Type} : Lit × DataW H → Nat
  | (.string bytes, d) => bytes.length + uptoBulk d + 1
  | (_, d) => uptoBulk d + 1
 end
def uptoSmall : (H : Type) → List (DataW H) → Bool := fun _ ds => decide (uptoBulkAll ds ≤ 1048576)
def OpenSpec.upto (s : _root_.Go.ChangeSpec) : _root_.Go.OpenSpec := { _root_.Go.OpenSpec.ofChange s with cond := some uptoSmall }

/-- 'pendulumlaw20.StampScales', WHERE WHAT IT READS IS OF BULK AT MOST 1048576: true; the input reads as it did. -/
def stampScalesUptoRow : OpenClaim := { program := "ytljdjdckgkpnpaa", sum := "e76df45e5f06db75b2597d52dd40b6a3c8bd1ffae74453d35153376dc40d591f", func := "pendulum/pendulumlaw20.StampScales", spec := "stampScales", unfollowed := true, recurses := true, apart := false, narrowed := true }
def StampScalesUptoSaid : Prop := stampScalesUptoRow.holds Try.pinned (OpenSpec.upto stampScalesSpec)

/-- 'pendulumlaw20.StampUndoes', WHERE WHAT IT READS IS OF BULK AT MOST 1048576: true; the input reads as it did. -/
def stampUndoesUptoRow : OpenClaim := { program := "ytljdjdckgkpnpaa", sum := "e76df45e5f06db75b2597d52dd40b6a3c8bd1ffae74453d35153376dc40d591f", func := "pendulum/pendulumlaw20.StampUndoes", spec := "stampUndoes", unfollowed := true, recurses := true, apart := false, narrowed := true }
def StampUndoesUptoSaid : Prop := stampUndoesUptoRow.holds Try.pinned (OpenSpec.upto stampUndoesSpec)

/-- 'pendulumlaw20.StampOffset', WHERE WHAT IT READS IS OF BULK AT MOST 1048576: true; the input reads as it did. -/
def stampOffsetUptoRow : OpenClaim := { program := "ytljdjdckgkpnpaa", sum := "e76df45e5f06db75b2597d52dd40b6a3c8bd1ffae74453d35153376dc40d591f", func := "pendulum/pendulumlaw20.StampOffset", spec := "stampOffset", unfollowed := true, recurses := true, apart := false, narrowed := true }
def StampOffsetUptoSaid : Prop := stampOffsetUptoRow.holds Try.pinned (OpenSpec.upto stampOffsetSpec)

/-- 'pendulumlaw20.StampTimes', WHERE WHAT IT READS IS OF BULK AT MOST 1048576: true; the input reads as it did. -/
def stampTimesUptoRow : OpenClaim := { program := "ytljdjdckgkpnpaa", sum := "e76df45e5f06db75b2597d52dd40b6a3c8bd1ffae74453d35153376dc40d591f", func := "pendulum/pendulumlaw20.StampTimes", spec := "stampTimes", unfollowed := true, recurses := true, apart := false, narrowed := true }
def StampTimesUptoSaid : Prop := stampTimesUptoRow.holds Try.pinned (OpenSpec.upto stampTimesSpec)

/-- 'pendulumlaw20.StampTells', WHERE WHAT IT READS IS OF BULK AT MOST 1048576: true; the input reads as it did. -/
def stampTellsUptoRow : OpenClaim := { program := "ytljdjdckgkpnpaa", sum := "e76df45e5f06db75b2597d52dd40b6a3c8bd1ffae74453d35153376dc40d591f", func := "pendulum/pendulumlaw20.StampTells", spec := "stampTells", unfollowed := true, recurses := true, named := ["math/bits.divideError", "math/bits.overflowError"], apart := false, narrowed := true }
def StampTellsUptoSaid : Prop := stampTellsUptoRow.holds Try.pinned (OpenSpec.upto stampTellsSpec)

end Rows
end Go.Proofs.Ytljdjdckgkpnpaa
