/-
  No cell of these rows narrows 'for every input' (looked for: loops, veiled, ifaces, maps, wideKeys, modest, calm, conditions, laid).
  DERIVED. THE GIVEN ROWS OF THIS SEAT. 4 by the template 'for every input the law returns true; each argument reads behind the call as it read before'; 0 by the template 'total and deterministic' (their statements: YthnfbhkfcejjgaaTotals.lean).
  GIVEN WITH THE SEED: the statements are not yours to turn. If you find one false, say at which input.
  Laid BY PROGRAM, IN A SANDBOX (cutbox-rows.mjs): the forced cells as the released guide's own fill.sh prints them over the translation a1cbaae4eeb6a821… (all of the seat's roots in one cut). By AI agents, Wed Nov 11 2026. No macro, syntax, notation, axiom, sorry.
-/
import Derived.Test.YthnfbhkfcejjgaaChecked
import GoSem.Claim
import GoSem.ClaimJoined
import GoSem.ClaimMapViews
import Derived.JoinedTies
import Derived.KernelRfl
namespace Go.Proofs.Ythnfbhkfcejjgaa
/- THE CELL 'sum', in the pinned program and in every row, IS THE sha256 OF THE DUMP (.gsa) THAT YthnfbhkfcejjgaaProg.lean LOADS. Nothing in Lean hashes anything: it is a label: what it is worth is what the hold of that sum in a sandbox is worth. -/
noncomputable def Try.pinned : Pinned := { name := "ythnfbhkfcejjgaa", sum := "a1cbaae4eeb6a8214c3a85e80a83889ced330745fb914096285e04cc07fcd54d", checked := Try.checked }
namespace Rows
def none {H : Type} : Left H := { results := [], args := [] }

/-- 'pendulumlaw31.DiscSlowly': WHATEVER THE INPUT: true; the input reads as it did. -/
def discSlowlySpec : ChangeSpec := { name := "discSlowly", fn := fun _ => fun
  | [d1, d2] => { results := [.lit (.bool true)], args := [d1, d2] }
  | _ => none }
def discSlowlyRow : OpenClaim := { program := "ythnfbhkfcejjgaa", sum := "a1cbaae4eeb6a8214c3a85e80a83889ced330745fb914096285e04cc07fcd54d", func := "pendulum/pendulumlaw31.DiscSlowly", spec := "discSlowly", unfollowed := true, recurses := true, apart := false }
def DiscSlowlySaid : Prop := discSlowlyRow.holds Try.pinned (OpenSpec.ofChange discSlowlySpec)

/-- ITS FALSE NEIGHBOUR: 'it returns false'. Refute it at one input. -/
def discSlowlyWrong : ChangeSpec := { name := "discSlowly", fn := fun _ => fun
  | [d1, d2] => { results := [.lit (.bool false)], args := [d1, d2] }
  | _ => none }
def DiscSlowlyWrongFalsely : Prop := discSlowlyRow.holds Try.pinned (OpenSpec.ofChange discSlowlyWrong)

/-- 'pendulumlaw31.DiscSteps': WHATEVER THE INPUT: true; the input reads as it did. -/
def discStepsSpec : ChangeSpec := { name := "discSteps", fn := fun _ => fun
  | [d1, d2, d3] => { results := [.lit (.bool true)], args := [d1, d2, d3] }
  | _ => none }
def discStepsRow : OpenClaim := { program := "ythnfbhkfcejjgaa", sum := "a1cbaae4eeb6a8214c3a85e80a83889ced330745fb914096285e04cc07fcd54d", func := "pendulum/pendulumlaw31.DiscSteps", spec := "discSteps", unfollowed := true, recurses := true, apart := false }
def DiscStepsSaid : Prop := discStepsRow.holds Try.pinned (OpenSpec.ofChange discStepsSpec)

/-- ITS FALSE NEIGHBOUR: 'it returns false'. Refute it at one input. -/
def discStepsWrong : ChangeSpec := { name := "discSteps", fn := fun _ => fun
  | [d1, d2, d3] => { results := [.lit (.bool false)], args := [d1, d2, d3] }
  | _ => none }
def DiscStepsWrongFalsely : Prop := discStepsRow.holds Try.pinned (OpenSpec.ofChange discStepsWrong)

/-- 'pendulumlaw31.DiscUpdates': WHATEVER THE INPUT: true; the input reads as it did. -/
def discUpdatesSpec : ChangeSpec := { name := "discUpdates", fn := fun _ => fun
  | [d1, d2, d3] => { results := [.lit (.bool true)], args := [d1, d2, d3] }
  | _ => none }
def discUpdatesRow : OpenClaim := { program := "ythnfbhkfcejjgaa", sum := "a1cbaae4eeb6a8214c3a85e80a83889ced330745fb914096285e04cc07fcd54d", func := "pendulum/pendulumlaw31.DiscUpdates", spec := "discUpdates", unfollowed := true, recurses := true, apart := false }
def DiscUpdatesSaid : Prop := discUpdatesRow.holds Try.pinned (OpenSpec.ofChange discUpdatesSpec)

/-- ITS FALSE NEIGHBOUR: 'it returns false'. Refute it at one input. -/
def discUpdatesWrong : ChangeSpec := { name := "discUpdates", fn := fun _ => fun
  | [d1, d2, d3] => { results := [.lit (.bool false)], args := [d1, d2, d3] }
  | _ => none }
def DiscUpdatesWrongFalsely : Prop := discUpdatesRow.holds Try.pinned (OpenSpec.ofChange discUpdatesWrong)

/-- 'pendulumlaw31.DiscTicks': WHATEVER THE INPUT: true; the input reads as it did. -/
def discTicksSpec : ChangeSpec := { name := "discTicks", fn := fun _ => fun
  | [d1, d2] => { results := [.lit (.bool true)], args := [d1, d2] }
  | _ => none }
def discTicksRow : OpenClaim := { program := "ythnfbhkfcejjgaa", sum := "a1cbaae4eeb6a8214c3a85e80a83889ced330745fb914096285e04cc07fcd54d", func := "pendulum/pendulumlaw31.DiscTicks", spec := "discTicks", unfollowed := true, recurses := true, named := ["math/bits.divideError", "math/bits.overflowError"], apart := false }
def DiscTicksSaid : Prop := discTicksRow.holds Try.pinned (OpenSpec.ofChange discTicksSpec)

/-- ITS FALSE NEIGHBOUR: 'it returns false'. Refute it at one input. -/
def discTicksWrong : ChangeSpec := { name := "discTicks", fn := fun _ => fun
  | [d1, d2] => { results := [.lit (.bool false)], args := [d1, d2] }
  | _ => none }
def DiscTicksWrongFalsely : Prop := discTicksRow.holds Try.pinned (OpenSpec.ofChange discTicksWrong)

/- THE SECOND FORM. 'bulk': how many values and letters a reading holds, each counted each time it is reached (what is shared counts as often as it is met; a slice's spare places count too). A statement '..UptoSaid' is the law's where the arguments, and the package variables that the reading takes, are together of bulk at most 1048576: NARROWER than '..Said'. Prove '..Said' where nothing that the law and all that it calls make is longer than what came in: it says more and counts as full. Else prove '..UptoSaid'. A law counts once. -/
mutual
def uptoBulk {H : Type} : DataW H → Nat
  | .lit (.string bytes) => bytes.length + 1
  | .lit _ => 1
  | .nil => 1
  | .ptr d => uptoBulk d + 1
  | .slice elems spare => uptoBulkAll elems + uptoBulkAll spare + 1
  | .agg parts => uptoBulkAll parts + 1
  | .iface _ d => uptoBulk d + 1
  | .map entries => uptoBulkEntries entries + 1
  | .held _ => 1
def uptoBulkAll {H : Type} : List (DataW H) → Nat
  | [] => 0
  | d :: r => uptoBulk d + uptoBulkAll r
def uptoBulkEntries {H : Type} : List (Lit × DataW H) → Nat
  | [] => 0
  | x :: r => uptoBulkEntry x + uptoBulkEntries r
def uptoBulkEntry {H : Type} : Lit × DataW H → Nat
  | (.string bytes, d) => bytes.length + uptoBulk d + 1
  | (_, d) => uptoBulk d + 1
 end
def uptoSmall : (H : Type) → List (DataW H) → Bool := fun _ ds => decide (uptoBulkAll ds ≤ 1048576)
def OpenSpec.upto (s : _root_.Go.ChangeSpec) : _root_.Go.OpenSpec := { _root_.Go.OpenSpec.ofChange s with cond := some uptoSmall }

/-- 'pendulumlaw31.DiscSlowly', WHERE WHAT IT READS IS OF BULK AT MOST 1048576: true; the input reads as it did. -/
def discSlowlyUptoRow : OpenClaim := { program := "ythnfbhkfcejjgaa", sum := "a1cbaae4eeb6a8214c3a85e80a83889ced330745fb914096285e04cc07fcd54d", func := "pendulum/pendulumlaw31.DiscSlowly", spec := "discSlowly", unfollowed := true, recurses := true, apart := false, narrowed := true }
def DiscSlowlyUptoSaid : Prop := discSlowlyUptoRow.holds Try.pinned (OpenSpec.upto discSlowlySpec)

/-- 'pendulumlaw31.DiscSteps', WHERE WHAT IT READS IS OF BULK AT MOST 1048576: true; the input reads as it did. -/
def discStepsUptoRow : OpenClaim := { program := "ythnfbhkfcejjgaa", sum := "a1cbaae4eeb6a8214c3a85e80a83889ced330745fb914096285e04cc07fcd54d", func := "pendulum/pendulumlaw31.DiscSteps", spec := "discSteps", unfollowed := true, recurses := true, apart := false, narrowed := true }
def DiscStepsUptoSaid : Prop := discStepsUptoRow.holds Try.pinned (OpenSpec.upto discStepsSpec)

/-- 'pendulumlaw31.DiscUpdates', WHERE WHAT IT READS IS OF BULK AT MOST 1048576: true; the input reads as it did. -/
def discUpdatesUptoRow : OpenClaim := { program := "ythnfbhkfcejjgaa", sum := "a1cbaae4eeb6a8214c3a85e80a83889ced330745fb914096285e04cc07fcd54d", func := "pendulum/pendulumlaw31.DiscUpdates", spec := "discUpdates", unfollowed := true, recurses := true, apart := false, narrowed := true }
def DiscUpdatesUptoSaid : Prop := discUpdatesUptoRow.holds Try.pinned (OpenSpec.upto discUpdatesSpec)

/-- 'pendulumlaw31.DiscTicks', WHERE WHAT IT READS IS OF BULK AT MOST 1048576: true; the input reads as it did. -/
def discTicksUptoRow : OpenClaim := { program := "ythnfbhkfcejjgaa", sum := "a1cbaae4eeb6a8214c3a85e80a83889ced330745fb914096285e04cc07fcd54d", func := "pendulum/pendulumlaw31.DiscTicks", spec := "discTicks", unfollowed := true, recurses := true, named := ["math/bits.divideError", "math/bits.overflowError"], apart := false, narrowed := true }
def DiscTicksUptoSaid : Prop := discTicksUptoRow.holds Try.pinned (OpenSpec.upto discTicksSpec)

end Rows
end Go.Proofs.Ythnfbhkfcejjgaa
