/-
  No cell of these rows narrows 'for every input' (looked for: loops, veiled, ifaces, maps, wideKeys, modest, calm, conditions, laid).
  DERIVED. THE GIVEN ROWS OF THIS SEAT. 5 by the template 'for every input the law returns true; each argument reads behind the call as it read before'; 0 by the template 'total and deterministic' (their statements: YtbocopfieadgoaaTotals.lean).
  GIVEN WITH THE SEED: the statements are not yours to turn. If you find one false, say at which input.
  Laid BY PROGRAM, IN A SANDBOX (cutbox-rows.mjs): the forced cells as the released guide's own fill.sh prints them over the translation 2c986cd8c051bf13… (all of the seat's roots in one cut). By AI agents, Wed Nov 11 2026. No macro, syntax, notation, axiom, sorry.
-/
import Derived.Test.YtbocopfieadgoaaChecked
import GoSem.Claim
import GoSem.ClaimJoined
import GoSem.ClaimMapViews
import Derived.JoinedTies
import Derived.KernelRfl
namespace Go.Proofs.Ytbocopfieadgoaa
/- THE CELL 'sum', in the pinned program and in every row, IS THE sha256 OF THE DUMP (.gsa) THAT YtbocopfieadgoaaProg.lean LOADS. Nothing in Lean hashes anything: it is a label: what it is worth is what the hold of that sum in a sandbox is worth. -/
noncomputable def Try.pinned : Pinned := { name := "ytbocopfieadgoaa", sum := "2c986cd8c051bf13a9ad4551cd08f06e97900c382965fa03acdb1770b6714765", checked := Try.checked }
namespace Rows
def none {H : Type} : Left H := { results := [], args := [] }

/-- 'pendulumlaw28.FiltRises': WHATEVER THE INPUT: true; the input reads as it did. -/
def filtRisesSpec : ChangeSpec := { name := "filtRises", fn := fun _ => fun
  | [d1, d2, d3] => { results := [.lit (.bool true)], args := [d1, d2, d3] }
  | _ => none }
def filtRisesRow : OpenClaim := { program := "ytbocopfieadgoaa", sum := "2c986cd8c051bf13a9ad4551cd08f06e97900c382965fa03acdb1770b6714765", func := "pendulum/pendulumlaw28.FiltRises", spec := "filtRises", unfollowed := true, recurses := true, apart := false }
def FiltRisesSaid : Prop := filtRisesRow.holds Try.pinned (OpenSpec.ofChange filtRisesSpec)

/-- ITS FALSE NEIGHBOUR: 'it returns false'. Refute it at one input. -/
def filtRisesWrong : ChangeSpec := { name := "filtRises", fn := fun _ => fun
  | [d1, d2, d3] => { results := [.lit (.bool false)], args := [d1, d2, d3] }
  | _ => none }
def FiltRisesWrongFalsely : Prop := filtRisesRow.holds Try.pinned (OpenSpec.ofChange filtRisesWrong)

/-- 'pendulumlaw28.FiltBest': WHATEVER THE INPUT: true; the input reads as it did. -/
def filtBestSpec : ChangeSpec := { name := "filtBest", fn := fun _ => fun
  | [d1, d2, d3] => { results := [.lit (.bool true)], args := [d1, d2, d3] }
  | _ => none }
def filtBestRow : OpenClaim := { program := "ytbocopfieadgoaa", sum := "2c986cd8c051bf13a9ad4551cd08f06e97900c382965fa03acdb1770b6714765", func := "pendulum/pendulumlaw28.FiltBest", spec := "filtBest", unfollowed := true, recurses := true, apart := false }
def FiltBestSaid : Prop := filtBestRow.holds Try.pinned (OpenSpec.ofChange filtBestSpec)

/-- ITS FALSE NEIGHBOUR: 'it returns false'. Refute it at one input. -/
def filtBestWrong : ChangeSpec := { name := "filtBest", fn := fun _ => fun
  | [d1, d2, d3] => { results := [.lit (.bool false)], args := [d1, d2, d3] }
  | _ => none }
def FiltBestWrongFalsely : Prop := filtBestRow.holds Try.pinned (OpenSpec.ofChange filtBestWrong)

/-- 'pendulumlaw28.FiltEight': WHATEVER THE INPUT: true; the input reads as it did. -/
def filtEightSpec : ChangeSpec := { name := "filtEight", fn := fun _ => fun
  | [d1, d2] => { results := [.lit (.bool true)], args := [d1, d2] }
  | _ => none }
def filtEightRow : OpenClaim := { program := "ytbocopfieadgoaa", sum := "2c986cd8c051bf13a9ad4551cd08f06e97900c382965fa03acdb1770b6714765", func := "pendulum/pendulumlaw28.FiltEight", spec := "filtEight", unfollowed := true, recurses := true, apart := false }
def FiltEightSaid : Prop := filtEightRow.holds Try.pinned (OpenSpec.ofChange filtEightSpec)

/-- ITS FALSE NEIGHBOUR: 'it returns false'. Refute it at one input. -/
def filtEightWrong : ChangeSpec := { name := "filtEight", fn := fun _ => fun
  | [d1, d2] => { results := [.lit (.bool false)], args := [d1, d2] }
  | _ => none }
def FiltEightWrongFalsely : Prop := filtEightRow.holds Try.pinned (OpenSpec.ofChange filtEightWrong)

/-- 'pendulumlaw28.FiltAges': WHATEVER THE INPUT: true; the input reads as it did. -/
def filtAgesSpec : ChangeSpec := { name := "filtAges", fn := fun _ => fun
  | [d1, d2] => { results := [.lit (.bool true)], args := [d1, d2] }
  | _ => none }
def filtAgesRow : OpenClaim := { program := "ytbocopfieadgoaa", sum := "2c986cd8c051bf13a9ad4551cd08f06e97900c382965fa03acdb1770b6714765", func := "pendulum/pendulumlaw28.FiltAges", spec := "filtAges", unfollowed := true, recurses := true, named := ["math/bits.divideError", "math/bits.overflowError"], apart := false }
def FiltAgesSaid : Prop := filtAgesRow.holds Try.pinned (OpenSpec.ofChange filtAgesSpec)

/-- ITS FALSE NEIGHBOUR: 'it returns false'. Refute it at one input. -/
def filtAgesWrong : ChangeSpec := { name := "filtAges", fn := fun _ => fun
  | [d1, d2] => { results := [.lit (.bool false)], args := [d1, d2] }
  | _ => none }
def FiltAgesWrongFalsely : Prop := filtAgesRow.holds Try.pinned (OpenSpec.ofChange filtAgesWrong)

/-- 'pendulumlaw28.FiltPuts': WHATEVER THE INPUT: true; the input reads as it did. -/
def filtPutsSpec : ChangeSpec := { name := "filtPuts", fn := fun _ => fun
  | [d1, d2, d3] => { results := [.lit (.bool true)], args := [d1, d2, d3] }
  | _ => none }
def filtPutsRow : OpenClaim := { program := "ytbocopfieadgoaa", sum := "2c986cd8c051bf13a9ad4551cd08f06e97900c382965fa03acdb1770b6714765", func := "pendulum/pendulumlaw28.FiltPuts", spec := "filtPuts", unfollowed := true, recurses := true, named := ["math/bits.divideError", "math/bits.overflowError"], apart := false }
def FiltPutsSaid : Prop := filtPutsRow.holds Try.pinned (OpenSpec.ofChange filtPutsSpec)

/-- ITS FALSE NEIGHBOUR: 'it returns false'. Refute it at one input. -/
def filtPutsWrong : ChangeSpec := { name := "filtPuts", fn := fun _ => fun
  | [d1, d2, d3] => { results := [.lit (.bool false)], args := [d1, d2, d3] }
  | _ => none }
def FiltPutsWrongFalsely : Prop := filtPutsRow.holds Try.pinned (OpenSpec.ofChange filtPutsWrong)

/- THE SECOND FORM. 'bulk': how many values and letters a reading holds, each counted each time it is reached (what is shared counts as often as it is met; a slice's spare places count too). A statement '..UptoSaid' is the law's where the arguments, and the package variables that the reading takes, are together of bulk at most 1048576: NARROWER than '..Said'. Prove '..Said' where nothing that the law and all that it calls make is longer than what came in: it says more and counts as full. Else prove '..UptoSaid'. A law counts once. -/
mutual
def uptoBulk {H : Type} : DataW H → Nat
  | .lit (.string bytes) => bytes.length + 1
  | .lit _ => 1
  | .nil => 1
  | .ptr d => uptoBulk d + 1
  | .slice elems spare => uptoBulkAll elems + uptoBulkAll spare + 1
  | .agg parts => uptoBulkAll parts + 1
  | .iface _ d => uptoBulk d + 1
  | .map entries => uptoBulkEntries entries + 1
  | .held _ => 1
def uptoBulkAll {H : Type} : List (DataW H) → Nat
  | [] => 0
  | d :: r => uptoBulk d + uptoBulkAll r
def uptoBulkEntries {H : Type} : List (Lit × DataW H) → Nat
  | [] => 0
  | x :: r => uptoBulkEntry x + uptoBulkEntries r
def uptoBulkEntry {H : Type} : Lit × DataW H → Nat
  | (.string bytes, d) => bytes.length + uptoBulk d + 1
  | (_, d) => uptoBulk d + 1
 end
def uptoSmall : (H : Type) → List (DataW H) → Bool := fun _ ds => decide (uptoBulkAll ds ≤ 1048576)
def OpenSpec.upto (s : _root_.Go.ChangeSpec) : _root_.Go.OpenSpec := { _root_.Go.OpenSpec.ofChange s with cond := some uptoSmall }

/-- 'pendulumlaw28.FiltRises', WHERE WHAT IT READS IS OF BULK AT MOST 1048576: true; the input reads as it did. -/
def filtRisesUptoRow : OpenClaim := { program := "ytbocopfieadgoaa", sum := "2c986cd8c051bf13a9ad4551cd08f06e97900c382965fa03acdb1770b6714765", func := "pendulum/pendulumlaw28.FiltRises", spec := "filtRises", unfollowed := true, recurses := true, apart := false, narrowed := true }
def FiltRisesUptoSaid : Prop := filtRisesUptoRow.holds Try.pinned (OpenSpec.upto filtRisesSpec)

/-- 'pendulumlaw28.FiltBest', WHERE WHAT IT READS IS OF BULK AT MOST 1048576: true; the input reads as it did. -/
def filtBestUptoRow : OpenClaim := { program := "ytbocopfieadgoaa", sum := "2c986cd8c051bf13a9ad4551cd08f06e97900c382965fa03acdb1770b6714765", func := "pendulum/pendulumlaw28.FiltBest", spec := "filtBest", unfollowed := true, recurses := true, apart := false, narrowed := true }
def FiltBestUptoSaid : Prop := filtBestUptoRow.holds Try.pinned (OpenSpec.upto filtBestSpec)

/-- 'pendulumlaw28.FiltEight', WHERE WHAT IT READS IS OF BULK AT MOST 1048576: true; the input reads as it did. -/
def filtEightUptoRow : OpenClaim := { program := "ytbocopfieadgoaa", sum := "2c986cd8c051bf13a9ad4551cd08f06e97900c382965fa03acdb1770b6714765", func := "pendulum/pendulumlaw28.FiltEight", spec := "filtEight", unfollowed := true, recurses := true, apart := false, narrowed := true }
def FiltEightUptoSaid : Prop := filtEightUptoRow.holds Try.pinned (OpenSpec.upto filtEightSpec)

/-- 'pendulumlaw28.FiltAges', WHERE WHAT IT READS IS OF BULK AT MOST 1048576: true; the input reads as it did. -/
def filtAgesUptoRow : OpenClaim := { program := "ytbocopfieadgoaa", sum := "2c986cd8c051bf13a9ad4551cd08f06e97900c382965fa03acdb1770b6714765", func := "pendulum/pendulumlaw28.FiltAges", spec := "filtAges", unfollowed := true, recurses := true, named := ["math/bits.divideError", "math/bits.overflowError"], apart := false, narrowed := true }
def FiltAgesUptoSaid : Prop := filtAgesUptoRow.holds Try.pinned (OpenSpec.upto filtAgesSpec)

/-- 'pendulumlaw28.FiltPuts', WHERE WHAT IT READS IS OF BULK AT MOST 1048576: true; the input reads as it did. -/
def filtPutsUptoRow : OpenClaim := { program := "ytbocopfieadgoaa", sum := "2c986cd8c051bf13a9ad4551cd08f06e97900c382965fa03acdb1770b6714765", func := "pendulum/pendulumlaw28.FiltPuts", spec := "filtPuts", unfollowed := true, recurses := true, named := ["math/bits.divideError", "math/bits.overflowError"], apart := false, narrowed := true }
def FiltPutsUptoSaid : Prop := filtPutsUptoRow.holds Try.pinned (OpenSpec.upto filtPutsSpec)

end Rows
end Go.Proofs.Ytbocopfieadgoaa
