/-
  No cell of these rows narrows 'for every input' (looked for: loops, veiled, ifaces, maps, wideKeys, modest, calm, conditions, laid).
  DERIVED. THE GIVEN ROWS OF THIS SEAT. 3 by the template 'for every input the law returns true; each argument reads behind the call as it read before'; 0 by the template 'total and deterministic' (their statements: YtaaobpalpcdlbaaGreatTotals.lean).
  GIVEN WITH THE SEED: the statements are not yours to turn. If you find one false, say at which input.
  Laid BY PROGRAM, IN A SANDBOX (cutbox-rows.mjs): the forced cells as the released guide's own fill.sh prints them over the translation ffc5f75cb2a77679… (all of the seat's roots in one cut). By AI agents, Wed Nov 11 2026. No macro, syntax, notation, axiom, sorry.
-/
import Derived.Test.YtaaobpalpcdlbaaGreatChecked
import GoSem.Claim
import GoSem.ClaimJoined
import GoSem.ClaimMapViews
import Derived.JoinedTies
import Derived.KernelRfl
namespace Go.Proofs.YtaaobpalpcdlbaaGreat
/- THE CELL 'sum', in the pinned program and in every row, IS THE sha256 OF THE DUMP (.gsa) THAT YtaaobpalpcdlbaaGreatProg.lean LOADS. Nothing in Lean hashes anything: it is a label: what it is worth is what the hold of that sum in a sandbox is worth. -/
noncomputable def Tryz.pinned : Pinned := { name := "ytaaobpalpcdlbaagreat", sum := "ffc5f75cb2a776794e304daabe34c74279d046835516058a598d10deabd27bda", checked := Tryz.checked }
namespace Rows
def none {H : Type} : Left H := { results := [], args := [] }

/-- 'pendulumlaw04.PointAdds': WHATEVER THE INPUT: true; the input reads as it did. -/
def pointAddsSpec : ChangeSpec := { name := "pointAdds", fn := fun _ => fun
  | [d1, d2, d3, d4] => { results := [.lit (.bool true)], args := [d1, d2, d3, d4] }
  | _ => none }
def pointAddsRow : OpenClaim := { program := "ytaaobpalpcdlbaagreat", sum := "ffc5f75cb2a776794e304daabe34c74279d046835516058a598d10deabd27bda", func := "pendulum/pendulumlaw04.PointAdds", spec := "pointAdds", inPlace := ["math/bits.Add64", "math/bits.Sub64", "internal/bytealg.IndexByteString"], unfollowed := true, recurses := true, named := ["math/bits.divideError", "math/bits.overflowError"], apart := false }
def PointAddsSaid : Prop := pointAddsRow.holds Tryz.pinned (OpenSpec.ofChange pointAddsSpec)

/-- ITS FALSE NEIGHBOUR: 'it returns false'. Refute it at one input. -/
def pointAddsWrong : ChangeSpec := { name := "pointAdds", fn := fun _ => fun
  | [d1, d2, d3, d4] => { results := [.lit (.bool false)], args := [d1, d2, d3, d4] }
  | _ => none }
def PointAddsWrongFalsely : Prop := pointAddsRow.holds Tryz.pinned (OpenSpec.ofChange pointAddsWrong)

/-- 'pendulumlaw05.EcdsaChecks': WHATEVER THE INPUT: true; the input reads as it did. -/
def ecdsaChecksSpec : ChangeSpec := { name := "ecdsaChecks", fn := fun _ => fun
  | [d1, d2, d3] => { results := [.lit (.bool true)], args := [d1, d2, d3] }
  | _ => none }
def ecdsaChecksRow : OpenClaim := { program := "ytaaobpalpcdlbaagreat", sum := "ffc5f75cb2a776794e304daabe34c74279d046835516058a598d10deabd27bda", func := "pendulum/pendulumlaw05.EcdsaChecks", spec := "ecdsaChecks", inPlace := ["internal/bytealg.IndexByteString", "math/bits.Add64", "math/bits.Sub64"], unfollowed := true, recurses := true, named := ["math/bits.divideError", "math/bits.overflowError"], apart := false }
def EcdsaChecksSaid : Prop := ecdsaChecksRow.holds Tryz.pinned (OpenSpec.ofChange ecdsaChecksSpec)

/-- ITS FALSE NEIGHBOUR: 'it returns false'. Refute it at one input. -/
def ecdsaChecksWrong : ChangeSpec := { name := "ecdsaChecks", fn := fun _ => fun
  | [d1, d2, d3] => { results := [.lit (.bool false)], args := [d1, d2, d3] }
  | _ => none }
def EcdsaChecksWrongFalsely : Prop := ecdsaChecksRow.holds Tryz.pinned (OpenSpec.ofChange ecdsaChecksWrong)

/-- 'pendulumlaw05.EcdsaSigns': WHATEVER THE INPUT: true; the input reads as it did. -/
def ecdsaSignsSpec : ChangeSpec := { name := "ecdsaSigns", fn := fun _ => fun
  | [d1, d2, d3, d4] => { results := [.lit (.bool true)], args := [d1, d2, d3, d4] }
  | _ => none }
def ecdsaSignsRow : OpenClaim := { program := "ytaaobpalpcdlbaagreat", sum := "ffc5f75cb2a776794e304daabe34c74279d046835516058a598d10deabd27bda", func := "pendulum/pendulumlaw05.EcdsaSigns", spec := "ecdsaSigns", inPlace := ["internal/bytealg.IndexByteString", "math/bits.Add64", "math/bits.Sub64"], unfollowed := true, recurses := true, named := ["math/bits.divideError", "math/bits.overflowError"], apart := false }
def EcdsaSignsSaid : Prop := ecdsaSignsRow.holds Tryz.pinned (OpenSpec.ofChange ecdsaSignsSpec)

/-- ITS FALSE NEIGHBOUR: 'it returns false'. Refute it at one input. -/
def ecdsaSignsWrong : ChangeSpec := { name := "ecdsaSigns", fn := fun _ => fun
  | [d1, d2, d3, d4] => { results := [.lit (.bool false)], args := [d1, d2, d3, d4] }
  | _ => none }
def EcdsaSignsWrongFalsely : Prop := ecdsaSignsRow.holds Tryz.pinned (OpenSpec.ofChange ecdsaSignsWrong)

/- THE SECOND FORM. 'bulk': how many values and letters a reading holds, each counted each time it is reached (what is shared counts as often as it is met; a slice's spare places count too). A statement '..UptoSaid' is the law's where the arguments, and the package variables that the reading takes, are together of bulk at most 1048576: NARROWER than '..Said'. Prove '..Said' where nothing that the law and all that it calls make is longer than what came in: it says more and counts as full. Else prove '..UptoSaid'. A law counts once. -/
mutual
def uptoBulk {H : Type} : DataW H → Nat
  | .lit (.string bytes) => bytes.length + 1
  | .lit _ => 1
  | .nil => 1
  | .ptr d => uptoBulk d + 1
  | .slice elems spare => uptoBulkAll elems + uptoBulkAll spare + 1
  | .agg parts => uptoBulkAll parts + 1
  | .iface _ d => uptoBulk d + 1
  | .map entries => uptoBulkEntries entries + 1
  | .held _ => 1
def uptoBulkAll {H : Type} : List (DataW H) → Nat
  | [] => 0
  | d :: r => uptoBulk d + uptoBulkAll r
def uptoBulkEntries {H : Type} : List (Lit × DataW H) → Nat
  | [] => 0
  | x :: r => uptoBulkEntry x + uptoBulkEntries r
def uptoBulkEntry {H : Type} : Lit × DataW H → Nat
  | (.string bytes, d) => bytes.length + uptoBulk d + 1
  | (_, d) => uptoBulk d + 1
 end
def uptoSmall : (H : Type) → List (DataW H) → Bool := fun _ ds => decide (uptoBulkAll ds ≤ 1048576)
def OpenSpec.upto (s : _root_.Go.ChangeSpec) : _root_.Go.OpenSpec := { _root_.Go.OpenSpec.ofChange s with cond := some uptoSmall }

/-- 'pendulumlaw04.PointAdds', WHERE WHAT IT READS IS OF BULK AT MOST 1048576: true; the input reads as it did. -/
def pointAddsUptoRow : OpenClaim := { program := "ytaaobpalpcdlbaagreat", sum := "ffc5f75cb2a776794e304daabe34c74279d046835516058a598d10deabd27bda", func := "pendulum/pendulumlaw04.PointAdds", spec := "pointAdds", inPlace := ["math/bits.Add64", "math/bits.Sub64", "internal/bytealg.IndexByteString"], unfollowed := true, recurses := true, named := ["math/bits.divideError", "math/bits.overflowError"], apart := false, narrowed := true }
def PointAddsUptoSaid : Prop := pointAddsUptoRow.holds Tryz.pinned (OpenSpec.upto pointAddsSpec)

/-- 'pendulumlaw05.EcdsaChecks', WHERE WHAT IT READS IS OF BULK AT MOST 1048576: true; the input reads as it did. -/
def ecdsaChecksUptoRow : OpenClaim := { program := "ytaaobpalpcdlbaagreat", sum := "ffc5f75cb2a776794e304daabe34c74279d046835516058a598d10deabd27bda", func := "pendulum/pendulumlaw05.EcdsaChecks", spec := "ecdsaChecks", inPlace := ["internal/bytealg.IndexByteString", "math/bits.Add64", "math/bits.Sub64"], unfollowed := true, recurses := true, named := ["math/bits.divideError", "math/bits.overflowError"], apart := false, narrowed := true }
def EcdsaChecksUptoSaid : Prop := ecdsaChecksUptoRow.holds Tryz.pinned (OpenSpec.upto ecdsaChecksSpec)

/-- 'pendulumlaw05.EcdsaSigns', WHERE WHAT IT READS IS OF BULK AT MOST 1048576: true; the input reads as it did. -/
def ecdsaSignsUptoRow : OpenClaim := { program := "ytaaobpalpcdlbaagreat", sum := "ffc5f75cb2a776794e304daabe34c74279d046835516058a598d10deabd27bda", func := "pendulum/pendulumlaw05.EcdsaSigns", spec := "ecdsaSigns", inPlace := ["internal/bytealg.IndexByteString", "math/bits.Add64", "math/bits.Sub64"], unfollowed := true, recurses := true, named := ["math/bits.divideError", "math/bits.overflowError"], apart := false, narrowed := true }
def EcdsaSignsUptoSaid : Prop := ecdsaSignsUptoRow.holds Tryz.pinned (OpenSpec.upto ecdsaSignsSpec)

end Rows
end Go.Proofs.YtaaobpalpcdlbaaGreat
