/-
  No cell of these rows narrows 'for every input' (looked for: loops, veiled, ifaces, maps, wideKeys, modest, calm, conditions, laid).
  DERIVED. THE GIVEN ROWS OF THIS SEAT. 15 by the template 'for every input the law returns true; each argument reads behind the call as it read before'; 0 by the template 'total and deterministic' (their statements: YtaaobpalpcdlbaaTotals.lean).
  GIVEN WITH THE SEED: the statements are not yours to turn. If you find one false, say at which input.
  Laid BY PROGRAM, IN A SANDBOX (cutbox-rows.mjs): the forced cells as the released guide's own fill.sh prints them over the translation ed4a5a9090e46de9… (all of the seat's roots in one cut). By AI agents, Wed Nov 11 2026. No macro, syntax, notation, axiom, sorry.
-/
import Derived.Test.YtaaobpalpcdlbaaChecked
import GoSem.Claim
import GoSem.ClaimJoined
import GoSem.ClaimMapViews
import Derived.JoinedTies
import Derived.KernelRfl
namespace Go.Proofs.Ytaaobpalpcdlbaa
/- THE CELL 'sum', in the pinned program and in every row, IS THE sha256 OF THE DUMP (.gsa) THAT YtaaobpalpcdlbaaProg.lean LOADS. Nothing in Lean hashes anything: it is a label: what it is worth is what the hold of that sum in a sandbox is worth. -/
noncomputable def Try.pinned : Pinned := { name := "ytaaobpalpcdlbaa", sum := "ed4a5a9090e46de9ce3de4b1439c3d90023694004fbd96db33ae44652a091fe1", checked := Try.checked }
namespace Rows
def none {H : Type} : Left H := { results := [], args := [] }

/-- 'pendulumlaw02.ModPowers': WHATEVER THE INPUT: true; the input reads as it did. -/
def modPowersSpec : ChangeSpec := { name := "modPowers", fn := fun _ => fun
  | [d1, d2, d3] => { results := [.lit (.bool true)], args := [d1, d2, d3] }
  | _ => none }
def modPowersRow : OpenClaim := { program := "ytaaobpalpcdlbaa", sum := "ed4a5a9090e46de9ce3de4b1439c3d90023694004fbd96db33ae44652a091fe1", func := "pendulum/pendulumlaw02.ModPowers", spec := "modPowers", inPlace := ["math/bits.Add64", "math/bits.Sub64"], unfollowed := true, recurses := true, named := ["math/bits.divideError", "math/bits.overflowError"], apart := false }
def ModPowersSaid : Prop := modPowersRow.holds Try.pinned (OpenSpec.ofChange modPowersSpec)

/-- ITS FALSE NEIGHBOUR: 'it returns false'. Refute it at one input. -/
def modPowersWrong : ChangeSpec := { name := "modPowers", fn := fun _ => fun
  | [d1, d2, d3] => { results := [.lit (.bool false)], args := [d1, d2, d3] }
  | _ => none }
def ModPowersWrongFalsely : Prop := modPowersRow.holds Try.pinned (OpenSpec.ofChange modPowersWrong)

/-- 'pendulumlaw02.ModCommon': WHATEVER THE INPUT: true; the input reads as it did. -/
def modCommonSpec : ChangeSpec := { name := "modCommon", fn := fun _ => fun
  | [d1, d2] => { results := [.lit (.bool true)], args := [d1, d2] }
  | _ => none }
def modCommonRow : OpenClaim := { program := "ytaaobpalpcdlbaa", sum := "ed4a5a9090e46de9ce3de4b1439c3d90023694004fbd96db33ae44652a091fe1", func := "pendulum/pendulumlaw02.ModCommon", spec := "modCommon", inPlace := ["math/bits.Add64", "math/bits.Sub64"], unfollowed := true, recurses := true, named := ["math/bits.divideError", "math/bits.overflowError"], apart := false }
def ModCommonSaid : Prop := modCommonRow.holds Try.pinned (OpenSpec.ofChange modCommonSpec)

/-- ITS FALSE NEIGHBOUR: 'it returns false'. Refute it at one input. -/
def modCommonWrong : ChangeSpec := { name := "modCommon", fn := fun _ => fun
  | [d1, d2] => { results := [.lit (.bool false)], args := [d1, d2] }
  | _ => none }
def ModCommonWrongFalsely : Prop := modCommonRow.holds Try.pinned (OpenSpec.ofChange modCommonWrong)

/-- 'pendulumlaw02.ModInverse': WHATEVER THE INPUT: true; the input reads as it did. -/
def modInverseSpec : ChangeSpec := { name := "modInverse", fn := fun _ => fun
  | [d1, d2, d3, d4] => { results := [.lit (.bool true)], args := [d1, d2, d3, d4] }
  | _ => none }
def modInverseRow : OpenClaim := { program := "ytaaobpalpcdlbaa", sum := "ed4a5a9090e46de9ce3de4b1439c3d90023694004fbd96db33ae44652a091fe1", func := "pendulum/pendulumlaw02.ModInverse", spec := "modInverse", inPlace := ["math/bits.Add64", "math/bits.Sub64"], unfollowed := true, recurses := true, named := ["math/bits.divideError", "math/bits.overflowError"], apart := false }
def ModInverseSaid : Prop := modInverseRow.holds Try.pinned (OpenSpec.ofChange modInverseSpec)

/-- ITS FALSE NEIGHBOUR: 'it returns false'. Refute it at one input. -/
def modInverseWrong : ChangeSpec := { name := "modInverse", fn := fun _ => fun
  | [d1, d2, d3, d4] => { results := [.lit (.bool false)], args := [d1, d2, d3, d4] }
  | _ => none }
def ModInverseWrongFalsely : Prop := modInverseRow.holds Try.pinned (OpenSpec.ofChange modInverseWrong)

/-- 'pendulumlaw02.ModRing': WHATEVER THE INPUT: true; the input reads as it did. -/
def modRingSpec : ChangeSpec := { name := "modRing", fn := fun _ => fun
  | [d1, d2, d3, d4] => { results := [.lit (.bool true)], args := [d1, d2, d3, d4] }
  | _ => none }
def modRingRow : OpenClaim := { program := "ytaaobpalpcdlbaa", sum := "ed4a5a9090e46de9ce3de4b1439c3d90023694004fbd96db33ae44652a091fe1", func := "pendulum/pendulumlaw02.ModRing", spec := "modRing", inPlace := ["math/bits.Add64", "math/bits.Sub64"], unfollowed := true, recurses := true, named := ["math/bits.divideError", "math/bits.overflowError"], apart := false }
def ModRingSaid : Prop := modRingRow.holds Try.pinned (OpenSpec.ofChange modRingSpec)

/-- ITS FALSE NEIGHBOUR: 'it returns false'. Refute it at one input. -/
def modRingWrong : ChangeSpec := { name := "modRing", fn := fun _ => fun
  | [d1, d2, d3, d4] => { results := [.lit (.bool false)], args := [d1, d2, d3, d4] }
  | _ => none }
def ModRingWrongFalsely : Prop := modRingRow.holds Try.pinned (OpenSpec.ofChange modRingWrong)

/-- 'pendulumlaw02.ModTells': WHATEVER THE INPUT: true; the input reads as it did. -/
def modTellsSpec : ChangeSpec := { name := "modTells", fn := fun _ => fun
  | [d1, d2, d3] => { results := [.lit (.bool true)], args := [d1, d2, d3] }
  | _ => none }
def modTellsRow : OpenClaim := { program := "ytaaobpalpcdlbaa", sum := "ed4a5a9090e46de9ce3de4b1439c3d90023694004fbd96db33ae44652a091fe1", func := "pendulum/pendulumlaw02.ModTells", spec := "modTells", inPlace := ["math/bits.Add64", "math/bits.Sub64"], unfollowed := true, recurses := true, named := ["math/bits.divideError", "math/bits.overflowError"], apart := false }
def ModTellsSaid : Prop := modTellsRow.holds Try.pinned (OpenSpec.ofChange modTellsSpec)

/-- ITS FALSE NEIGHBOUR: 'it returns false'. Refute it at one input. -/
def modTellsWrong : ChangeSpec := { name := "modTells", fn := fun _ => fun
  | [d1, d2, d3] => { results := [.lit (.bool false)], args := [d1, d2, d3] }
  | _ => none }
def ModTellsWrongFalsely : Prop := modTellsRow.holds Try.pinned (OpenSpec.ofChange modTellsWrong)

/-- 'pendulumlaw03.XdhTells': WHATEVER THE INPUT: true; the input reads as it did. -/
def xdhTellsSpec : ChangeSpec := { name := "xdhTells", fn := fun _ => fun
  | [d1, d2] => { results := [.lit (.bool true)], args := [d1, d2] }
  | _ => none }
def xdhTellsRow : OpenClaim := { program := "ytaaobpalpcdlbaa", sum := "ed4a5a9090e46de9ce3de4b1439c3d90023694004fbd96db33ae44652a091fe1", func := "pendulum/pendulumlaw03.XdhTells", spec := "xdhTells", inPlace := ["math/bits.Add64", "math/bits.Sub64"], unfollowed := true, recurses := true, named := ["math/bits.divideError", "math/bits.overflowError"], apart := false }
def XdhTellsSaid : Prop := xdhTellsRow.holds Try.pinned (OpenSpec.ofChange xdhTellsSpec)

/-- ITS FALSE NEIGHBOUR: 'it returns false'. Refute it at one input. -/
def xdhTellsWrong : ChangeSpec := { name := "xdhTells", fn := fun _ => fun
  | [d1, d2] => { results := [.lit (.bool false)], args := [d1, d2] }
  | _ => none }
def XdhTellsWrongFalsely : Prop := xdhTellsRow.holds Try.pinned (OpenSpec.ofChange xdhTellsWrong)

/-- 'pendulumlaw03.XdhBits': WHATEVER THE INPUT: true; the input reads as it did. -/
def xdhBitsSpec : ChangeSpec := { name := "xdhBits", fn := fun _ => fun
  | [d1, d2, d3] => { results := [.lit (.bool true)], args := [d1, d2, d3] }
  | _ => none }
def xdhBitsRow : OpenClaim := { program := "ytaaobpalpcdlbaa", sum := "ed4a5a9090e46de9ce3de4b1439c3d90023694004fbd96db33ae44652a091fe1", func := "pendulum/pendulumlaw03.XdhBits", spec := "xdhBits", inPlace := ["math/bits.Add64", "math/bits.Sub64"], unfollowed := true, recurses := true, named := ["math/bits.divideError", "math/bits.overflowError"], apart := false }
def XdhBitsSaid : Prop := xdhBitsRow.holds Try.pinned (OpenSpec.ofChange xdhBitsSpec)

/-- ITS FALSE NEIGHBOUR: 'it returns false'. Refute it at one input. -/
def xdhBitsWrong : ChangeSpec := { name := "xdhBits", fn := fun _ => fun
  | [d1, d2, d3] => { results := [.lit (.bool false)], args := [d1, d2, d3] }
  | _ => none }
def XdhBitsWrongFalsely : Prop := xdhBitsRow.holds Try.pinned (OpenSpec.ofChange xdhBitsWrong)

/-- 'pendulumlaw03.XdhCurve': WHATEVER THE INPUT: true; the input reads as it did. -/
def xdhCurveSpec : ChangeSpec := { name := "xdhCurve", fn := fun _ => fun
  | [d1, d2] => { results := [.lit (.bool true)], args := [d1, d2] }
  | _ => none }
def xdhCurveRow : OpenClaim := { program := "ytaaobpalpcdlbaa", sum := "ed4a5a9090e46de9ce3de4b1439c3d90023694004fbd96db33ae44652a091fe1", func := "pendulum/pendulumlaw03.XdhCurve", spec := "xdhCurve", inPlace := ["math/bits.Add64", "math/bits.Sub64"], unfollowed := true, recurses := true, named := ["math/bits.divideError", "math/bits.overflowError"], apart := false }
def XdhCurveSaid : Prop := xdhCurveRow.holds Try.pinned (OpenSpec.ofChange xdhCurveSpec)

/-- ITS FALSE NEIGHBOUR: 'it returns false'. Refute it at one input. -/
def xdhCurveWrong : ChangeSpec := { name := "xdhCurve", fn := fun _ => fun
  | [d1, d2] => { results := [.lit (.bool false)], args := [d1, d2] }
  | _ => none }
def XdhCurveWrongFalsely : Prop := xdhCurveRow.holds Try.pinned (OpenSpec.ofChange xdhCurveWrong)

/-- 'pendulumlaw03.XdhCommon': WHATEVER THE INPUT: true; the input reads as it did. -/
def xdhCommonSpec : ChangeSpec := { name := "xdhCommon", fn := fun _ => fun
  | [d1, d2] => { results := [.lit (.bool true)], args := [d1, d2] }
  | _ => none }
def xdhCommonRow : OpenClaim := { program := "ytaaobpalpcdlbaa", sum := "ed4a5a9090e46de9ce3de4b1439c3d90023694004fbd96db33ae44652a091fe1", func := "pendulum/pendulumlaw03.XdhCommon", spec := "xdhCommon", inPlace := ["math/bits.Add64", "math/bits.Sub64"], unfollowed := true, recurses := true, named := ["math/bits.divideError", "math/bits.overflowError"], apart := false }
def XdhCommonSaid : Prop := xdhCommonRow.holds Try.pinned (OpenSpec.ofChange xdhCommonSpec)

/-- ITS FALSE NEIGHBOUR: 'it returns false'. Refute it at one input. -/
def xdhCommonWrong : ChangeSpec := { name := "xdhCommon", fn := fun _ => fun
  | [d1, d2] => { results := [.lit (.bool false)], args := [d1, d2] }
  | _ => none }
def XdhCommonWrongFalsely : Prop := xdhCommonRow.holds Try.pinned (OpenSpec.ofChange xdhCommonWrong)

/-- 'pendulumlaw04.PointOrder': WHATEVER THE INPUT: true; the input reads as it did. -/
def pointOrderSpec : ChangeSpec := { name := "pointOrder", fn := fun _ => fun
  | [d1, d2, d3] => { results := [.lit (.bool true)], args := [d1, d2, d3] }
  | _ => none }
def pointOrderRow : OpenClaim := { program := "ytaaobpalpcdlbaa", sum := "ed4a5a9090e46de9ce3de4b1439c3d90023694004fbd96db33ae44652a091fe1", func := "pendulum/pendulumlaw04.PointOrder", spec := "pointOrder", inPlace := ["math/bits.Add64", "math/bits.Sub64", "internal/bytealg.IndexByteString"], unfollowed := true, recurses := true, named := ["math/bits.divideError", "math/bits.overflowError"], apart := false }
def PointOrderSaid : Prop := pointOrderRow.holds Try.pinned (OpenSpec.ofChange pointOrderSpec)

/-- ITS FALSE NEIGHBOUR: 'it returns false'. Refute it at one input. -/
def pointOrderWrong : ChangeSpec := { name := "pointOrder", fn := fun _ => fun
  | [d1, d2, d3] => { results := [.lit (.bool false)], args := [d1, d2, d3] }
  | _ => none }
def PointOrderWrongFalsely : Prop := pointOrderRow.holds Try.pinned (OpenSpec.ofChange pointOrderWrong)

/-- 'pendulumlaw04.PointBack': WHATEVER THE INPUT: true; the input reads as it did. -/
def pointBackSpec : ChangeSpec := { name := "pointBack", fn := fun _ => fun
  | [d1, d2] => { results := [.lit (.bool true)], args := [d1, d2] }
  | _ => none }
def pointBackRow : OpenClaim := { program := "ytaaobpalpcdlbaa", sum := "ed4a5a9090e46de9ce3de4b1439c3d90023694004fbd96db33ae44652a091fe1", func := "pendulum/pendulumlaw04.PointBack", spec := "pointBack", inPlace := ["internal/bytealg.IndexByteString", "math/bits.Add64", "math/bits.Sub64"], unfollowed := true, recurses := true, named := ["math/bits.divideError", "math/bits.overflowError"], apart := false }
def PointBackSaid : Prop := pointBackRow.holds Try.pinned (OpenSpec.ofChange pointBackSpec)

/-- ITS FALSE NEIGHBOUR: 'it returns false'. Refute it at one input. -/
def pointBackWrong : ChangeSpec := { name := "pointBack", fn := fun _ => fun
  | [d1, d2] => { results := [.lit (.bool false)], args := [d1, d2] }
  | _ => none }
def PointBackWrongFalsely : Prop := pointBackRow.holds Try.pinned (OpenSpec.ofChange pointBackWrong)

/-- 'pendulumlaw04.PointReads': WHATEVER THE INPUT: true; the input reads as it did. -/
def pointReadsSpec : ChangeSpec := { name := "pointReads", fn := fun _ => fun
  | [d1, d2] => { results := [.lit (.bool true)], args := [d1, d2] }
  | _ => none }
def pointReadsRow : OpenClaim := { program := "ytaaobpalpcdlbaa", sum := "ed4a5a9090e46de9ce3de4b1439c3d90023694004fbd96db33ae44652a091fe1", func := "pendulum/pendulumlaw04.PointReads", spec := "pointReads", inPlace := ["internal/bytealg.IndexByteString", "math/bits.Add64", "math/bits.Sub64"], unfollowed := true, recurses := true, named := ["math/bits.divideError", "math/bits.overflowError"], apart := false }
def PointReadsSaid : Prop := pointReadsRow.holds Try.pinned (OpenSpec.ofChange pointReadsSpec)

/-- ITS FALSE NEIGHBOUR: 'it returns false'. Refute it at one input. -/
def pointReadsWrong : ChangeSpec := { name := "pointReads", fn := fun _ => fun
  | [d1, d2] => { results := [.lit (.bool false)], args := [d1, d2] }
  | _ => none }
def PointReadsWrongFalsely : Prop := pointReadsRow.holds Try.pinned (OpenSpec.ofChange pointReadsWrong)

/-- 'pendulumlaw04.PointGroup': WHATEVER THE INPUT: true; the input reads as it did. -/
def pointGroupSpec : ChangeSpec := { name := "pointGroup", fn := fun _ => fun
  | [d1, d2, d3] => { results := [.lit (.bool true)], args := [d1, d2, d3] }
  | _ => none }
def pointGroupRow : OpenClaim := { program := "ytaaobpalpcdlbaa", sum := "ed4a5a9090e46de9ce3de4b1439c3d90023694004fbd96db33ae44652a091fe1", func := "pendulum/pendulumlaw04.PointGroup", spec := "pointGroup", inPlace := ["math/bits.Add64", "math/bits.Sub64", "internal/bytealg.IndexByteString"], unfollowed := true, recurses := true, named := ["math/bits.divideError", "math/bits.overflowError"], apart := false }
def PointGroupSaid : Prop := pointGroupRow.holds Try.pinned (OpenSpec.ofChange pointGroupSpec)

/-- ITS FALSE NEIGHBOUR: 'it returns false'. Refute it at one input. -/
def pointGroupWrong : ChangeSpec := { name := "pointGroup", fn := fun _ => fun
  | [d1, d2, d3] => { results := [.lit (.bool false)], args := [d1, d2, d3] }
  | _ => none }
def PointGroupWrongFalsely : Prop := pointGroupRow.holds Try.pinned (OpenSpec.ofChange pointGroupWrong)

/-- 'pendulumlaw05.EcdsaHolds': WHATEVER THE INPUT: true; the input reads as it did. -/
def ecdsaHoldsSpec : ChangeSpec := { name := "ecdsaHolds", fn := fun _ => fun
  | [d1, d2, d3, d4] => { results := [.lit (.bool true)], args := [d1, d2, d3, d4] }
  | _ => none }
def ecdsaHoldsRow : OpenClaim := { program := "ytaaobpalpcdlbaa", sum := "ed4a5a9090e46de9ce3de4b1439c3d90023694004fbd96db33ae44652a091fe1", func := "pendulum/pendulumlaw05.EcdsaHolds", spec := "ecdsaHolds", inPlace := ["internal/bytealg.IndexByteString", "math/bits.Add64", "math/bits.Sub64"], unfollowed := true, recurses := true, named := ["math/bits.divideError", "math/bits.overflowError"], apart := false }
def EcdsaHoldsSaid : Prop := ecdsaHoldsRow.holds Try.pinned (OpenSpec.ofChange ecdsaHoldsSpec)

/-- ITS FALSE NEIGHBOUR: 'it returns false'. Refute it at one input. -/
def ecdsaHoldsWrong : ChangeSpec := { name := "ecdsaHolds", fn := fun _ => fun
  | [d1, d2, d3, d4] => { results := [.lit (.bool false)], args := [d1, d2, d3, d4] }
  | _ => none }
def EcdsaHoldsWrongFalsely : Prop := ecdsaHoldsRow.holds Try.pinned (OpenSpec.ofChange ecdsaHoldsWrong)

/-- 'pendulumlaw05.EcdsaOther': WHATEVER THE INPUT: true; the input reads as it did. -/
def ecdsaOtherSpec : ChangeSpec := { name := "ecdsaOther", fn := fun _ => fun
  | [d1, d2, d3] => { results := [.lit (.bool true)], args := [d1, d2, d3] }
  | _ => none }
def ecdsaOtherRow : OpenClaim := { program := "ytaaobpalpcdlbaa", sum := "ed4a5a9090e46de9ce3de4b1439c3d90023694004fbd96db33ae44652a091fe1", func := "pendulum/pendulumlaw05.EcdsaOther", spec := "ecdsaOther", inPlace := ["math/bits.Add64", "math/bits.Sub64", "internal/bytealg.IndexByteString"], unfollowed := true, recurses := true, named := ["math/bits.divideError", "math/bits.overflowError"], apart := false }
def EcdsaOtherSaid : Prop := ecdsaOtherRow.holds Try.pinned (OpenSpec.ofChange ecdsaOtherSpec)

/-- ITS FALSE NEIGHBOUR: 'it returns false'. Refute it at one input. -/
def ecdsaOtherWrong : ChangeSpec := { name := "ecdsaOther", fn := fun _ => fun
  | [d1, d2, d3] => { results := [.lit (.bool false)], args := [d1, d2, d3] }
  | _ => none }
def EcdsaOtherWrongFalsely : Prop := ecdsaOtherRow.holds Try.pinned (OpenSpec.ofChange ecdsaOtherWrong)

/- THE SECOND FORM. 'bulk': how many values and letters a reading holds, each counted each time it is reached (what is shared counts as often as it is met; a slice's spare places count too). A statement '..UptoSaid' is the law's where the arguments, and the package variables that the reading takes, are together of bulk at most 1048576: NARROWER than '..Said'. Prove '..Said' where nothing that the law and all that it calls make is longer than what came in: it says more and counts as full. Else prove '..UptoSaid'. A law counts once. -/
mutual
def uptoBulk {H : Type} : DataW H → Nat
  | .lit (.string bytes) => bytes.length + 1
  | .lit _ => 1
  | .nil => 1
  | .ptr d => uptoBulk d + 1
  | .slice elems spare => uptoBulkAll elems + uptoBulkAll spare + 1
  | .agg parts => uptoBulkAll parts + 1
  | .iface _ d => uptoBulk d + 1
  | .map entries => uptoBulkEntries entries + 1
  | .held _ => 1
def uptoBulkAll {H : Type} : List (DataW H) → Nat
  | [] => 0
  | d :: r => uptoBulk d + uptoBulkAll r
def uptoBulkEntries {H : Type} : List (Lit × DataW H) → Nat
  | [] => 0
  | x :: r => uptoBulkEntry x + uptoBulkEntries r
def uptoBulkEntry {H : Type} : Lit × DataW H → Nat
  | (.string bytes, d) => bytes.length + uptoBulk d + 1
  | (_, d) => uptoBulk d + 1
 end
def uptoSmall : (H : Type) → List (DataW H) → Bool := fun _ ds => decide (uptoBulkAll ds ≤ 1048576)
def OpenSpec.upto (s : _root_.Go.ChangeSpec) : _root_.Go.OpenSpec := { _root_.Go.OpenSpec.ofChange s with cond := some uptoSmall }

/-- 'pendulumlaw02.ModPowers', WHERE WHAT IT READS IS OF BULK AT MOST 1048576: true; the input reads as it did. -/
def modPowersUptoRow : OpenClaim := { program := "ytaaobpalpcdlbaa", sum := "ed4a5a9090e46de9ce3de4b1439c3d90023694004fbd96db33ae44652a091fe1", func := "pendulum/pendulumlaw02.ModPowers", spec := "modPowers", inPlace := ["math/bits.Add64", "math/bits.Sub64"], unfollowed := true, recurses := true, named := ["math/bits.divideError", "math/bits.overflowError"], apart := false, narrowed := true }
def ModPowersUptoSaid : Prop := modPowersUptoRow.holds Try.pinned (OpenSpec.upto modPowersSpec)

/-- 'pendulumlaw02.ModCommon', WHERE WHAT IT READS IS OF BULK AT MOST 1048576: true; the input reads as it did. -/
def modCommonUptoRow : OpenClaim := { program := "ytaaobpalpcdlbaa", sum := "ed4a5a9090e46de9ce3de4b1439c3d90023694004fbd96db33ae44652a091fe1", func := "pendulum/pendulumlaw02.ModCommon", spec := "modCommon", inPlace := ["math/bits.Add64", "math/bits.Sub64"], unfollowed := true, recurses := true, named := ["math/bits.divideError", "math/bits.overflowError"], apart := false, narrowed := true }
def ModCommonUptoSaid : Prop := modCommonUptoRow.holds Try.pinned (OpenSpec.upto modCommonSpec)

/-- 'pendulumlaw02.ModInverse', WHERE WHAT IT READS IS OF BULK AT MOST 1048576: true; the input reads as it did. -/
def modInverseUptoRow : OpenClaim := { program := "ytaaobpalpcdlbaa", sum := "ed4a5a9090e46de9ce3de4b1439c3d90023694004fbd96db33ae44652a091fe1", func := "pendulum/pendulumlaw02.ModInverse", spec := "modInverse", inPlace := ["math/bits.Add64", "math/bits.Sub64"], unfollowed := true, recurses := true, named := ["math/bits.divideError", "math/bits.overflowError"], apart := false, narrowed := true }
def ModInverseUptoSaid : Prop := modInverseUptoRow.holds Try.pinned (OpenSpec.upto modInverseSpec)

/-- 'pendulumlaw02.ModRing', WHERE WHAT IT READS IS OF BULK AT MOST 1048576: true; the input reads as it did. -/
def modRingUptoRow : OpenClaim := { program := "ytaaobpalpcdlbaa", sum := "ed4a5a9090e46de9ce3de4b1439c3d90023694004fbd96db33ae44652a091fe1", func := "pendulum/pendulumlaw02.ModRing", spec := "modRing", inPlace := ["math/bits.Add64", "math/bits.Sub64"], unfollowed := true, recurses := true, named := ["math/bits.divideError", "math/bits.overflowError"], apart := false, narrowed := true }
def ModRingUptoSaid : Prop := modRingUptoRow.holds Try.pinned (OpenSpec.upto modRingSpec)

/-- 'pendulumlaw02.ModTells', WHERE WHAT IT READS IS OF BULK AT MOST 1048576: true; the input reads as it did. -/
def modTellsUptoRow : OpenClaim := { program := "ytaaobpalpcdlbaa", sum := "ed4a5a9090e46de9ce3de4b1439c3d90023694004fbd96db33ae44652a091fe1", func := "pendulum/pendulumlaw02.ModTells", spec := "modTells", inPlace := ["math/bits.Add64", "math/bits.Sub64"], unfollowed := true, recurses := true, named := ["math/bits.divideError", "math/bits.overflowError"], apart := false, narrowed := true }
def ModTellsUptoSaid : Prop := modTellsUptoRow.holds Try.pinned (OpenSpec.upto modTellsSpec)

/-- 'pendulumlaw03.XdhTells', WHERE WHAT IT READS IS OF BULK AT MOST 1048576: true; the input reads as it did. -/
def xdhTellsUptoRow : OpenClaim := { program := "ytaaobpalpcdlbaa", sum := "ed4a5a9090e46de9ce3de4b1439c3d90023694004fbd96db33ae44652a091fe1", func := "pendulum/pendulumlaw03.XdhTells", spec := "xdhTells", inPlace := ["math/bits.Add64", "math/bits.Sub64"], unfollowed := true, recurses := true, named := ["math/bits.divideError", "math/bits.overflowError"], apart := false, narrowed := true }
def XdhTellsUptoSaid : Prop := xdhTellsUptoRow.holds Try.pinned (OpenSpec.upto xdhTellsSpec)

/-- 'pendulumlaw03.XdhBits', WHERE WHAT IT READS IS OF BULK AT MOST 1048576: true; the input reads as it did. -/
def xdhBitsUptoRow : OpenClaim := { program := "ytaaobpalpcdlbaa", sum := "ed4a5a9090e46de9ce3de4b1439c3d90023694004fbd96db33ae44652a091fe1", func := "pendulum/pendulumlaw03.XdhBits", spec := "xdhBits", inPlace := ["math/bits.Add64", "math/bits.Sub64"], unfollowed := true, recurses := true, named := ["math/bits.divideError", "math/bits.overflowError"], apart := false, narrowed := true }
def XdhBitsUptoSaid : Prop := xdhBitsUptoRow.holds Try.pinned (OpenSpec.upto xdhBitsSpec)

/-- 'pendulumlaw03.XdhCurve', WHERE WHAT IT READS IS OF BULK AT MOST 1048576: true; the input reads as it did. -/
def xdhCurveUptoRow : OpenClaim := { program := "ytaaobpalpcdlbaa", sum := "ed4a5a9090e46de9ce3de4b1439c3d90023694004fbd96db33ae44652a091fe1", func := "pendulum/pendulumlaw03.XdhCurve", spec := "xdhCurve", inPlace := ["math/bits.Add64", "math/bits.Sub64"], unfollowed := true, recurses := true, named := ["math/bits.divideError", "math/bits.overflowError"], apart := false, narrowed := true }
def XdhCurveUptoSaid : Prop := xdhCurveUptoRow.holds Try.pinned (OpenSpec.upto xdhCurveSpec)

/-- 'pendulumlaw03.XdhCommon', WHERE WHAT IT READS IS OF BULK AT MOST 1048576: true; the input reads as it did. -/
def xdhCommonUptoRow : OpenClaim := { program := "ytaaobpalpcdlbaa", sum := "ed4a5a9090e46de9ce3de4b1439c3d90023694004fbd96db33ae44652a091fe1", func := "pendulum/pendulumlaw03.XdhCommon", spec := "xdhCommon", inPlace := ["math/bits.Add64", "math/bits.Sub64"], unfollowed := true, recurses := true, named := ["math/bits.divideError", "math/bits.overflowError"], apart := false, narrowed := true }
def XdhCommonUptoSaid : Prop := xdhCommonUptoRow.holds Try.pinned (OpenSpec.upto xdhCommonSpec)

/-- 'pendulumlaw04.PointOrder', WHERE WHAT IT READS IS OF BULK AT MOST 1048576: true; the input reads as it did. -/
def pointOrderUptoRow : OpenClaim := { program := "ytaaobpalpcdlbaa", sum := "ed4a5a9090e46de9ce3de4b1439c3d90023694004fbd96db33ae44652a091fe1", func := "pendulum/pendulumlaw04.PointOrder", spec := "pointOrder", inPlace := ["math/bits.Add64", "math/bits.Sub64", "internal/bytealg.IndexByteString"], unfollowed := true, recurses := true, named := ["math/bits.divideError", "math/bits.overflowError"], apart := false, narrowed := true }
def PointOrderUptoSaid : Prop := pointOrderUptoRow.holds Try.pinned (OpenSpec.upto pointOrderSpec)

/-- 'pendulumlaw04.PointBack', WHERE WHAT IT READS IS OF BULK AT MOST 1048576: true; the input reads as it did. -/
def pointBackUptoRow : OpenClaim := { program := "ytaaobpalpcdlbaa", sum := "ed4a5a9090e46de9ce3de4b1439c3d90023694004fbd96db33ae44652a091fe1", func := "pendulum/pendulumlaw04.PointBack", spec := "pointBack", inPlace := ["internal/bytealg.IndexByteString", "math/bits.Add64", "math/bits.Sub64"], unfollowed := true, recurses := true, named := ["math/bits.divideError", "math/bits.overflowError"], apart := false, narrowed := true }
def PointBackUptoSaid : Prop := pointBackUptoRow.holds Try.pinned (OpenSpec.upto pointBackSpec)

/-- 'pendulumlaw04.PointReads', WHERE WHAT IT READS IS OF BULK AT MOST 1048576: true; the input reads as it did. -/
def pointReadsUptoRow : OpenClaim := { program := "ytaaobpalpcdlbaa", sum := "ed4a5a9090e46de9ce3de4b1439c3d90023694004fbd96db33ae44652a091fe1", func := "pendulum/pendulumlaw04.PointReads", spec := "pointReads", inPlace := ["internal/bytealg.IndexByteString", "math/bits.Add64", "math/bits.Sub64"], unfollowed := true, recurses := true, named := ["math/bits.divideError", "math/bits.overflowError"], apart := false, narrowed := true }
def PointReadsUptoSaid : Prop := pointReadsUptoRow.holds Try.pinned (OpenSpec.upto pointReadsSpec)

/-- 'pendulumlaw04.PointGroup', WHERE WHAT IT READS IS OF BULK AT MOST 1048576: true; the input reads as it did. -/
def pointGroupUptoRow : OpenClaim := { program := "ytaaobpalpcdlbaa", sum := "ed4a5a9090e46de9ce3de4b1439c3d90023694004fbd96db33ae44652a091fe1", func := "pendulum/pendulumlaw04.PointGroup", spec := "pointGroup", inPlace := ["math/bits.Add64", "math/bits.Sub64", "internal/bytealg.IndexByteString"], unfollowed := true, recurses := true, named := ["math/bits.divideError", "math/bits.overflowError"], apart := false, narrowed := true }
def PointGroupUptoSaid : Prop := pointGroupUptoRow.holds Try.pinned (OpenSpec.upto pointGroupSpec)

/-- 'pendulumlaw05.EcdsaHolds', WHERE WHAT IT READS IS OF BULK AT MOST 1048576: true; the input reads as it did. -/
def ecdsaHoldsUptoRow : OpenClaim := { program := "ytaaobpalpcdlbaa", sum := "ed4a5a9090e46de9ce3de4b1439c3d90023694004fbd96db33ae44652a091fe1", func := "pendulum/pendulumlaw05.EcdsaHolds", spec := "ecdsaHolds", inPlace := ["internal/bytealg.IndexByteString", "math/bits.Add64", "math/bits.Sub64"], unfollowed := true, recurses := true, named := ["math/bits.divideError", "math/bits.overflowError"], apart := false, narrowed := true }
def EcdsaHoldsUptoSaid : Prop := ecdsaHoldsUptoRow.holds Try.pinned (OpenSpec.upto ecdsaHoldsSpec)

/-- 'pendulumlaw05.EcdsaOther', WHERE WHAT IT READS IS OF BULK AT MOST 1048576: true; the input reads as it did. -/
def ecdsaOtherUptoRow : OpenClaim := { program := "ytaaobpalpcdlbaa", sum := "ed4a5a9090e46de9ce3de4b1439c3d90023694004fbd96db33ae44652a091fe1", func := "pendulum/pendulumlaw05.EcdsaOther", spec := "ecdsaOther", inPlace := ["math/bits.Add64", "math/bits.Sub64", "internal/bytealg.IndexByteString"], unfollowed := true, recurses := true, named := ["math/bits.divideError", "math/bits.overflowError"], apart := false, narrowed := true }
def EcdsaOtherUptoSaid : Prop := ecdsaOtherUptoRow.holds Try.pinned (OpenSpec.upto ecdsaOtherSpec)

end Rows
end Go.Proofs.Ytaaobpalpcdlbaa
