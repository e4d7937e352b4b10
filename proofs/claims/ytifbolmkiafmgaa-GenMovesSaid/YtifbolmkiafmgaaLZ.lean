import Derived.Test.YtifbolmkiafmgaaSxR
import Derived.Test.YtifbolmkiafmgaaSxU
import Derived.Test.YtifbolmkiafmgaaProg
import Derived.Test.YtifbolmkiafmgaaL
import Derived.Test.YtifbolmkiafmgaaLA
import Derived.Test.YtifbolmkiafmgaaLB
import Derived.KernelRfl
namespace Go.Proofs.Ytifbolmkiafmgaa.A
open Go Go.Sx Go.RowKit
set_option linter.unusedVariables false
set_option maxRecDepth 100000
--@PLAIN
theorem walkGenMoves (s : Int) (q : Int) (r : Int) (w0 : World) (hs : (Lit.int .u64 s).wf = true) (hq : (Lit.int .u8 q).wf = true) (hr : (Lit.int .u8 r).wf = true) : Calls Try.prog 4 #[.int .u64 s, .int .u8 q, .int .u8 r] w0 fun e w' => e = .returned (.bool true) ∧ Below w0.heap.size w0 w' := by
  have n1 : 0 ≤ q := (wf_u8 hq).1
  have n2 : 0 ≤ r := (wf_u8 hr).1
  by_cases hc : 1 ≤ q % 40
  · exact walkGenMoves_a s q r w0 hs hq hr hc
  · by_cases hd : 1 ≤ r % 24
    · exact walkGenMoves_b s q r w0 hs hq hr ⟨by omega, hd⟩
    · exact walkGenMoves_c s q r w0 hs hq hr ⟨by omega, by omega⟩
end Go.Proofs.Ytifbolmkiafmgaa.A
