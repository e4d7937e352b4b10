import Derived.Test.YtifbolmkiafmgaaSxR
import Derived.Test.YtifbolmkiafmgaaSxU
import Derived.Test.YtifbolmkiafmgaaProg
import Derived.Test.YtifbolmkiafmgaaL0
import Derived.KernelRfl
namespace Go.Proofs.Ytifbolmkiafmgaa.A
open Go Go.Sx Go.RowKit
set_option linter.unusedVariables false
set_option maxRecDepth 100000
--@PLAIN
--@WHYP GenMoves_c hc : q % 40 = 0 ∧ r % 24 = 0
def VCGenMoves_c (s : Int) (q : Int) (r : Int) : Prop :=
  ∀ v1, v1 = IntKind.i64.wrap q -> ∀ v2, v2 = v1.tmod (40 : Int) -> (U64 s /\ I64 v2 /\ v2 ≤ (0 : Int)) /\ ∀ v3, v3 = IntKind.i64.wrap q -> ∀ v4, v4 = v3.tmod (40 : Int) -> ∀ v5, v5 = IntKind.i64.wrap r -> ∀ v6, v6 = v5.tmod (24 : Int) -> ∀ v7, v7 = IntKind.i64.wrap (v4 + v6) -> (U64 s /\ I64 v7 /\ v7 ≤ (0 : Int)) /\ ∀ v8, v8 = IntKind.i64.wrap q -> ∀ v9, v9 = v8.tmod (40 : Int) -> ∀ v10, v10 = ((0 : Int) != v9) -> (v10 = false -> ((0 : Int) = (0 : Int) /\ (0 : Int) = (0 : Int) /\ (0 : Int) = (0 : Int)) /\ U64 s /\ ∀ (v11 : Int), v11 = (1 : Int) + numF s (1 : Int) % (3 : Int) -> ∀ (v12 : Int -> Int), v12 = clkN s (3 : Int) -> ∀ (v13 : Int), v13 = (1 : Int) + numF s (2 : Int) % (2 : Int) -> ∀ (v14 : Int -> Int), v14 = clkN s (10 : Int) -> ((0 : Int) ≤ v11 /\ v11 ≤ v11) /\ (((1 : Int) ≤ v11 /\ v11 ≤ (3 : Int) /\ (3 : Int) ≤ (3 : Int)) /\ ∀ (v15 : Int), (0 : Int) ≤ v15 -> v15 < v11 -> (-1099511627776 : Int) ≤ v12 v15 /\ v12 v15 ≤ (1099511627776 : Int)) /\ ((0 : Int) ≤ v13 /\ v13 ≤ v13) /\ (((1 : Int) ≤ v13 /\ v13 ≤ (2 : Int) /\ (2 : Int) ≤ (3 : Int)) /\ ∀ (v16 : Int), (0 : Int) ≤ v16 -> v16 < v13 -> (-1099511627776 : Int) ≤ v14 v16 /\ v14 v16 ≤ (1099511627776 : Int)) /\ (v11 = v11 /\ (v11 = (1 : Int) ∨ v11 = (2 : Int) ∨ v11 = (3 : Int) ∨ False)) /\ (v11 = (1 : Int) -> (5 : Int) ≤ (9223372036854775807 : Int) /\ (13 : Int) ≤ (9223372036854775807 : Int) /\ (45 : Int) ≤ (9223372036854775807 : Int) /\ (bytesL [0, 0, 0, 2, 1, 0, 0, 0, 0, 0, 0, 0, 0, 0, 0, 0, 0, 0, 0, 0, 1, 0, 0, 0, 0, 0, 0, 0, 0, 0, 0, 0, 0, 0, 0, 0, 0, 0, 0, 0, 0, 0, 0, 0, 0] = bytesL [0, 0, 0, 2, 1, 0, 0, 0, 0, 0, 0, 0, 0, 0, 0, 0, 0, 0, 0, 0, 1, 0, 0, 0, 0, 0, 0, 0, 0, 0, 0, 0, 0, 0, 0, 0, 0, 0, 0, 0, 0, 0, 0, 0, 0] ∨ bytesL [0, 0, 0, 2, 1, 0, 0, 0, 0, 0, 0, 0, 0, 0, 0, 0, 0, 0, 0, 0, 1, 0, 0, 0, 0, 0, 0, 0, 0, 0, 0, 0, 0, 0, 0, 0, 0, 0, 0, 0, 0, 0, 0, 0, 0] = bytesL [0, 0, 0, 2, 1, 0, 0, 0, 0, 0, 0, 0, 0, 0, 0, 0, 0, 0, 0, 0, 2, 0, 0, 0, 0, 0, 0, 0, 0, 0, 0, 0, 0, 0, 0, 0, 0, 0, 0, 0, 0, 0, 0, 0, 0] ∨ bytesL [0, 0, 0, 2, 1, 0, 0, 0, 0, 0, 0, 0, 0, 0, 0, 0, 0, 0, 0, 0, 1, 0, 0, 0, 0, 0, 0, 0, 0, 0, 0, 0, 0, 0, 0, 0, 0, 0, 0, 0, 0, 0, 0, 0, 0] = bytesL [0, 0, 0, 2, 1, 0, 0, 0, 0, 0, 0, 0, 0, 0, 0, 0, 0, 0, 0, 0, 3, 0, 0, 0, 0, 0, 0, 0, 0, 0, 0, 0, 0, 0, 0, 0, 0, 0, 0, 0, 0, 0, 0, 0, 0]) /\ ∀ (v17 : ByteArray), v17 = ofF (bytesL [0, 0, 0, 2, 1, 0, 0, 0, 0, 0, 0, 0, 0, 0, 0, 0, 0, 0, 0, 0, 1, 0, 0, 0, 0, 0, 0, 0, 0, 0, 0, 0, 0, 0, 0, 0, 0, 0, 0, 0, 0, 0, 0, 0, 0]) -> ↑(45 + v17.size) ≤ (9223372036854775807 : Int) /\ ∀ (v18 : ByteArray), v18 = bytesL [0, 0, 0, 2, 1, 0, 0, 0, 0, 0, 0, 0, 0, 0, 0, 0, 0, 0, 0, 0, 1, 0, 0, 0, 0, 0, 0, 0, 0, 0, 0, 0, 0, 0, 0, 0, 0, 0, 0, 0, 0, 0, 0, 0, 0] ++ v17 -> (v13 = v13 /\ (v13 = (1 : Int) ∨ v13 = (2 : Int) ∨ False)) /\ (v13 = (1 : Int) -> True /\ true = true) /\ (v13 = (2 : Int) -> True /\ true = true) /\ True) /\ (v11 = (2 : Int) -> (5 : Int) ≤ (9223372036854775807 : Int) /\ (13 : Int) ≤ (9223372036854775807 : Int) /\ (45 : Int) ≤ (9223372036854775807 : Int) /\ (bytesL [0, 0, 0, 2, 1, 0, 0, 0, 0, 0, 0, 0, 0, 0, 0, 0, 0, 0, 0, 0, 1, 0, 0, 0, 0, 0, 0, 0, 0, 0, 0, 0, 0, 0, 0, 0, 0, 0, 0, 0, 0, 0, 0, 0, 0] = bytesL [0, 0, 0, 2, 1, 0, 0, 0, 0, 0, 0, 0, 0, 0, 0, 0, 0, 0, 0, 0, 1, 0, 0, 0, 0, 0, 0, 0, 0, 0, 0, 0, 0, 0, 0, 0, 0, 0, 0, 0, 0, 0, 0, 0, 0] ∨ bytesL [0, 0, 0, 2, 1, 0, 0, 0, 0, 0, 0, 0, 0, 0, 0, 0, 0, 0, 0, 0, 1, 0, 0, 0, 0, 0, 0, 0, 0, 0, 0, 0, 0, 0, 0, 0, 0, 0, 0, 0, 0, 0, 0, 0, 0] = bytesL [0, 0, 0, 2, 1, 0, 0, 0, 0, 0, 0, 0, 0, 0, 0, 0, 0, 0, 0, 0, 2, 0, 0, 0, 0, 0, 0, 0, 0, 0, 0, 0, 0, 0, 0, 0, 0, 0, 0, 0, 0, 0, 0, 0, 0] ∨ bytesL [0, 0, 0, 2, 1, 0, 0, 0, 0, 0, 0, 0, 0, 0, 0, 0, 0, 0, 0, 0, 1, 0, 0, 0, 0, 0, 0, 0, 0, 0, 0, 0, 0, 0, 0, 0, 0, 0, 0, 0, 0, 0, 0, 0, 0] = bytesL [0, 0, 0, 2, 1, 0, 0, 0, 0, 0, 0, 0, 0, 0, 0, 0, 0, 0, 0, 0, 3, 0, 0, 0, 0, 0, 0, 0, 0, 0, 0, 0, 0, 0, 0, 0, 0, 0, 0, 0, 0, 0, 0, 0, 0]) /\ ∀ (v19 : ByteArray), v19 = ofF (bytesL [0, 0, 0, 2, 1, 0, 0, 0, 0, 0, 0, 0, 0, 0, 0, 0, 0, 0, 0, 0, 1, 0, 0, 0, 0, 0, 0, 0, 0, 0, 0, 0, 0, 0, 0, 0, 0, 0, 0, 0, 0, 0, 0, 0, 0]) -> ↑(45 + v19.size) ≤ (9223372036854775807 : Int) /\ ∀ (v20 : ByteArray), v20 = bytesL [0, 0, 0, 2, 1, 0, 0, 0, 0, 0, 0, 0, 0, 0, 0, 0, 0, 0, 0, 0, 1, 0, 0, 0, 0, 0, 0, 0, 0, 0, 0, 0, 0, 0, 0, 0, 0, 0, 0, 0, 0, 0, 0, 0, 0] ++ v19 -> (5 : Int) ≤ (9223372036854775807 : Int) /\ (13 : Int) ≤ (9223372036854775807 : Int) /\ (45 : Int) ≤ (9223372036854775807 : Int) /\ (bytesL [0, 0, 0, 2, 1, 0, 0, 0, 0, 0, 0, 0, 0, 0, 0, 0, 0, 0, 0, 0, 2, 0, 0, 0, 0, 0, 0, 0, 0, 0, 0, 0, 0, 0, 0, 0, 0, 0, 0, 0, 0, 0, 0, 0, 0] = bytesL [0, 0, 0, 2, 1, 0, 0, 0, 0, 0, 0, 0, 0, 0, 0, 0, 0, 0, 0, 0, 1, 0, 0, 0, 0, 0, 0, 0, 0, 0, 0, 0, 0, 0, 0, 0, 0, 0, 0, 0, 0, 0, 0, 0, 0] ∨ bytesL [0, 0, 0, 2, 1, 0, 0, 0, 0, 0, 0, 0, 0, 0, 0, 0, 0, 0, 0, 0, 2, 0, 0, 0, 0, 0, 0, 0, 0, 0, 0, 0, 0, 0, 0, 0, 0, 0, 0, 0, 0, 0, 0, 0, 0] = bytesL [0, 0, 0, 2, 1, 0, 0, 0, 0, 0, 0, 0, 0, 0, 0, 0, 0, 0, 0, 0, 2, 0, 0, 0, 0, 0, 0, 0, 0, 0, 0, 0, 0, 0, 0, 0, 0, 0, 0, 0, 0, 0, 0, 0, 0] ∨ bytesL [0, 0, 0, 2, 1, 0, 0, 0, 0, 0, 0, 0, 0, 0, 0, 0, 0, 0, 0, 0, 2, 0, 0, 0, 0, 0, 0, 0, 0, 0, 0, 0, 0, 0, 0, 0, 0, 0, 0, 0, 0, 0, 0, 0, 0] = bytesL [0, 0, 0, 2, 1, 0, 0, 0, 0, 0, 0, 0, 0, 0, 0, 0, 0, 0, 0, 0, 3, 0, 0, 0, 0, 0, 0, 0, 0, 0, 0, 0, 0, 0, 0, 0, 0, 0, 0, 0, 0, 0, 0, 0, 0]) /\ ∀ (v21 : ByteArray), v21 = ofF (bytesL [0, 0, 0, 2, 1, 0, 0, 0, 0, 0, 0, 0, 0, 0, 0, 0, 0, 0, 0, 0, 2, 0, 0, 0, 0, 0, 0, 0, 0, 0, 0, 0, 0, 0, 0, 0, 0, 0, 0, 0, 0, 0, 0, 0, 0]) -> ↑(45 + v21.size) ≤ (9223372036854775807 : Int) /\ ∀ (v22 : ByteArray), v22 = bytesL [0, 0, 0, 2, 1, 0, 0, 0, 0, 0, 0, 0, 0, 0, 0, 0, 0, 0, 0, 0, 2, 0, 0, 0, 0, 0, 0, 0, 0, 0, 0, 0, 0, 0, 0, 0, 0, 0, 0, 0, 0, 0, 0, 0, 0] ++ v21 -> (v13 = v13 /\ (v13 = (1 : Int) ∨ v13 = (2 : Int) ∨ False)) /\ (v13 = (1 : Int) -> True /\ true = true) /\ (v13 = (2 : Int) -> True /\ true = true) /\ True) /\ (v11 = (3 : Int) -> (5 : Int) ≤ (9223372036854775807 : Int) /\ (13 : Int) ≤ (9223372036854775807 : Int) /\ (45 : Int) ≤ (9223372036854775807 : Int) /\ (bytesL [0, 0, 0, 2, 1, 0, 0, 0, 0, 0, 0, 0, 0, 0, 0, 0, 0, 0, 0, 0, 1, 0, 0, 0, 0, 0, 0, 0, 0, 0, 0, 0, 0, 0, 0, 0, 0, 0, 0, 0, 0, 0, 0, 0, 0] = bytesL [0, 0, 0, 2, 1, 0, 0, 0, 0, 0, 0, 0, 0, 0, 0, 0, 0, 0, 0, 0, 1, 0, 0, 0, 0, 0, 0, 0, 0, 0, 0, 0, 0, 0, 0, 0, 0, 0, 0, 0, 0, 0, 0, 0, 0] ∨ bytesL [0, 0, 0, 2, 1, 0, 0, 0, 0, 0, 0, 0, 0, 0, 0, 0, 0, 0, 0, 0, 1, 0, 0, 0, 0, 0, 0, 0, 0, 0, 0, 0, 0, 0, 0, 0, 0, 0, 0, 0, 0, 0, 0, 0, 0] = bytesL [0, 0, 0, 2, 1, 0, 0, 0, 0, 0, 0, 0, 0, 0, 0, 0, 0, 0, 0, 0, 2, 0, 0, 0, 0, 0, 0, 0, 0, 0, 0, 0, 0, 0, 0, 0, 0, 0, 0, 0, 0, 0, 0, 0, 0] ∨ bytesL [0, 0, 0, 2, 1, 0, 0, 0, 0, 0, 0, 0, 0, 0, 0, 0, 0, 0, 0, 0, 1, 0, 0, 0, 0, 0, 0, 0, 0, 0, 0, 0, 0, 0, 0, 0, 0, 0, 0, 0, 0, 0, 0, 0, 0] = bytesL [0, 0, 0, 2, 1, 0, 0, 0, 0, 0, 0, 0, 0, 0, 0, 0, 0, 0, 0, 0, 3, 0, 0, 0, 0, 0, 0, 0, 0, 0, 0, 0, 0, 0, 0, 0, 0, 0, 0, 0, 0, 0, 0, 0, 0]) /\ ∀ (v23 : ByteArray), v23 = ofF (bytesL [0, 0, 0, 2, 1, 0, 0, 0, 0, 0, 0, 0, 0, 0, 0, 0, 0, 0, 0, 0, 1, 0, 0, 0, 0, 0, 0, 0, 0, 0, 0, 0, 0, 0, 0, 0, 0, 0, 0, 0, 0, 0, 0, 0, 0]) -> ↑(45 + v23.size) ≤ (9223372036854775807 : Int) /\ ∀ (v24 : ByteArray), v24 = bytesL [0, 0, 0, 2, 1, 0, 0, 0, 0, 0, 0, 0, 0, 0, 0, 0, 0, 0, 0, 0, 1, 0, 0, 0, 0, 0, 0, 0, 0, 0, 0, 0, 0, 0, 0, 0, 0, 0, 0, 0, 0, 0, 0, 0, 0] ++ v23 -> (5 : Int) ≤ (9223372036854775807 : Int) /\ (13 : Int) ≤ (9223372036854775807 : Int) /\ (45 : Int) ≤ (9223372036854775807 : Int) /\ (bytesL [0, 0, 0, 2, 1, 0, 0, 0, 0, 0, 0, 0, 0, 0, 0, 0, 0, 0, 0, 0, 2, 0, 0, 0, 0, 0, 0, 0, 0, 0, 0, 0, 0, 0, 0, 0, 0, 0, 0, 0, 0, 0, 0, 0, 0] = bytesL [0, 0, 0, 2, 1, 0, 0, 0, 0, 0, 0, 0, 0, 0, 0, 0, 0, 0, 0, 0, 1, 0, 0, 0, 0, 0, 0, 0, 0, 0, 0, 0, 0, 0, 0, 0, 0, 0, 0, 0, 0, 0, 0, 0, 0] ∨ bytesL [0, 0, 0, 2, 1, 0, 0, 0, 0, 0, 0, 0, 0, 0, 0, 0, 0, 0, 0, 0, 2, 0, 0, 0, 0, 0, 0, 0, 0, 0, 0, 0, 0, 0, 0, 0, 0, 0, 0, 0, 0, 0, 0, 0, 0] = bytesL [0, 0, 0, 2, 1, 0, 0, 0, 0, 0, 0, 0, 0, 0, 0, 0, 0, 0, 0, 0, 2, 0, 0, 0, 0, 0, 0, 0, 0, 0, 0, 0, 0, 0, 0, 0, 0, 0, 0, 0, 0, 0, 0, 0, 0] ∨ bytesL [0, 0, 0, 2, 1, 0, 0, 0, 0, 0, 0, 0, 0, 0, 0, 0, 0, 0, 0, 0, 2, 0, 0, 0, 0, 0, 0, 0, 0, 0, 0, 0, 0, 0, 0, 0, 0, 0, 0, 0, 0, 0, 0, 0, 0] = bytesL [0, 0, 0, 2, 1, 0, 0, 0, 0, 0, 0, 0, 0, 0, 0, 0, 0, 0, 0, 0, 3, 0, 0, 0, 0, 0, 0, 0, 0, 0, 0, 0, 0, 0, 0, 0, 0, 0, 0, 0, 0, 0, 0, 0, 0]) /\ ∀ (v25 : ByteArray), v25 = ofF (bytesL [0, 0, 0, 2, 1, 0, 0, 0, 0, 0, 0, 0, 0, 0, 0, 0, 0, 0, 0, 0, 2, 0, 0, 0, 0, 0, 0, 0, 0, 0, 0, 0, 0, 0, 0, 0, 0, 0, 0, 0, 0, 0, 0, 0, 0]) -> ↑(45 + v25.size) ≤ (9223372036854775807 : Int) /\ ∀ (v26 : ByteArray), v26 = bytesL [0, 0, 0, 2, 1, 0, 0, 0, 0, 0, 0, 0, 0, 0, 0, 0, 0, 0, 0, 0, 2, 0, 0, 0, 0, 0, 0, 0, 0, 0, 0, 0, 0, 0, 0, 0, 0, 0, 0, 0, 0, 0, 0, 0, 0] ++ v25 -> (5 : Int) ≤ (9223372036854775807 : Int) /\ (13 : Int) ≤ (9223372036854775807 : Int) /\ (45 : Int) ≤ (9223372036854775807 : Int) /\ (bytesL [0, 0, 0, 2, 1, 0, 0, 0, 0, 0, 0, 0, 0, 0, 0, 0, 0, 0, 0, 0, 3, 0, 0, 0, 0, 0, 0, 0, 0, 0, 0, 0, 0, 0, 0, 0, 0, 0, 0, 0, 0, 0, 0, 0, 0] = bytesL [0, 0, 0, 2, 1, 0, 0, 0, 0, 0, 0, 0, 0, 0, 0, 0, 0, 0, 0, 0, 1, 0, 0, 0, 0, 0, 0, 0, 0, 0, 0, 0, 0, 0, 0, 0, 0, 0, 0, 0, 0, 0, 0, 0, 0] ∨ bytesL [0, 0, 0, 2, 1, 0, 0, 0, 0, 0, 0, 0, 0, 0, 0, 0, 0, 0, 0, 0, 3, 0, 0, 0, 0, 0, 0, 0, 0, 0, 0, 0, 0, 0, 0, 0, 0, 0, 0, 0, 0, 0, 0, 0, 0] = bytesL [0, 0, 0, 2, 1, 0, 0, 0, 0, 0, 0, 0, 0, 0, 0, 0, 0, 0, 0, 0, 2, 0, 0, 0, 0, 0, 0, 0, 0, 0, 0, 0, 0, 0, 0, 0, 0, 0, 0, 0, 0, 0, 0, 0, 0] ∨ bytesL [0, 0, 0, 2, 1, 0, 0, 0, 0, 0, 0, 0, 0, 0, 0, 0, 0, 0, 0, 0, 3, 0, 0, 0, 0, 0, 0, 0, 0, 0, 0, 0, 0, 0, 0, 0, 0, 0, 0, 0, 0, 0, 0, 0, 0] = bytesL [0, 0, 0, 2, 1, 0, 0, 0, 0, 0, 0, 0, 0, 0, 0, 0, 0, 0, 0, 0, 3, 0, 0, 0, 0, 0, 0, 0, 0, 0, 0, 0, 0, 0, 0, 0, 0, 0, 0, 0, 0, 0, 0, 0, 0]) /\ ∀ (v27 : ByteArray), v27 = ofF (bytesL [0, 0, 0, 2, 1, 0, 0, 0, 0, 0, 0, 0, 0, 0, 0, 0, 0, 0, 0, 0, 3, 0, 0, 0, 0, 0, 0, 0, 0, 0, 0, 0, 0, 0, 0, 0, 0, 0, 0, 0, 0, 0, 0, 0, 0]) -> ↑(45 + v27.size) ≤ (9223372036854775807 : Int) /\ ∀ (v28 : ByteArray), v28 = bytesL [0, 0, 0, 2, 1, 0, 0, 0, 0, 0, 0, 0, 0, 0, 0, 0, 0, 0, 0, 0, 3, 0, 0, 0, 0, 0, 0, 0, 0, 0, 0, 0, 0, 0, 0, 0, 0, 0, 0, 0, 0, 0, 0, 0, 0] ++ v27 -> (v13 = v13 /\ (v13 = (1 : Int) ∨ v13 = (2 : Int) ∨ False)) /\ (v13 = (1 : Int) -> True /\ true = true) /\ (v13 = (2 : Int) -> True /\ true = true) /\ True) /\ True) /\ (v10 = true -> false = true)
theorem tieGenMoves_c (w0 : World) (s : Int) (q : Int) (r : Int) : VCGenMoves_c s q r = ((recN (GR Try.prog gvSpec [] gvFSpec gvcRSpec [] [] gvSplSpec [] [] [] w0) 90).call 4 [.int .u64 (.sym s), .int .u8 (.sym q), .int .u8 (.sym r)] [] (fun v _ => isTrue v)) := by kernel_rfl
theorem pureGenMoves_c (w0 : World) (s q r : Int) (h : U64 s ∧ U8 q ∧ U8 r ∧ q % 40 = 0 ∧ r % 24 = 0) : VCGenMoves_c s q r := by
  obtain ⟨hs, hq, hr, hq0, hr0⟩ := h
  have hq : 0 ≤ q ∧ q ≤ 255 := hq
  have hr : 0 ≤ r ∧ r ≤ 255 := hr
  have u1 := num_in s 1
  have u2 := num_in s 2
  have w8 : IntKind.i64.wrap q = q := i64_id (by omega) (by omega)
  have w9 : IntKind.i64.wrap r = r := i64_id (by omega) (by omega)
  unfold VCGenMoves_c
  rintro _ rfl v2 h2
  rw [w8, tmod_nonneg hq.1] at h2
  refine ⟨⟨hs, ⟨by omega, by omega⟩, by omega⟩, ?_⟩
  rintro _ rfl v4 h4 _ rfl v6 h6 v7 h7
  rw [w8, tmod_nonneg hq.1] at h4
  rw [w9, tmod_nonneg hr.1] at h6
  rw [i64_id (by omega) (by omega)] at h7
  refine ⟨⟨hs, ⟨by omega, by omega⟩, by omega⟩, ?_⟩
  rintro _ rfl v9 h9
  rw [w8, tmod_nonneg hq.1] at h9
  refine nef (by omega) ⟨⟨rfl, rfl, rfl⟩, ?_⟩
  refine ⟨hs, ?_⟩
  rintro _ rfl _ rfl _ rfl _ rfl
  refine ⟨⟨by omega, by omega⟩, ⟨⟨by omega, by omega, by omega⟩, fun j _ _ => clkN_in s 3 j⟩, ⟨by omega, by omega⟩, ⟨⟨by omega, by omega, by omega⟩, fun j _ _ => clkN_in s 10 j⟩, ⟨rfl, by omega⟩, ?_, ?_, ?_, trivial⟩
  · intro hn
    refine ⟨by decide, by decide, by decide, Or.inl rfl, ?_⟩
    rintro _ rfl
    refine ⟨of_len1, ?_⟩
    rintro _ rfl
    exact ⟨⟨rfl, by omega⟩, fun _ => ⟨trivial, rfl⟩, fun _ => ⟨trivial, rfl⟩, trivial⟩
  · intro hn
    refine ⟨by decide, by decide, by decide, Or.inl rfl, ?_⟩
    rintro _ rfl
    refine ⟨of_len1, ?_⟩
    rintro _ rfl
    refine ⟨by decide, by decide, by decide, Or.inr (Or.inl rfl), ?_⟩
    rintro _ rfl
    refine ⟨of_len2, ?_⟩
    rintro _ rfl
    exact ⟨⟨rfl, by omega⟩, fun _ => ⟨trivial, rfl⟩, fun _ => ⟨trivial, rfl⟩, trivial⟩
  · intro hn
    refine ⟨by decide, by decide, by decide, Or.inl rfl, ?_⟩
    rintro _ rfl
    refine ⟨of_len1, ?_⟩
    rintro _ rfl
    refine ⟨by decide, by decide, by decide, Or.inr (Or.inl rfl), ?_⟩
    rintro _ rfl
    refine ⟨of_len2, ?_⟩
    rintro _ rfl
    refine ⟨by decide, by decide, by decide, Or.inr (Or.inr rfl), ?_⟩
    rintro _ rfl
    refine ⟨of_len3, ?_⟩
    rintro _ rfl
    exact ⟨⟨rfl, by omega⟩, fun _ => ⟨trivial, rfl⟩, fun _ => ⟨trivial, rfl⟩, trivial⟩
theorem walkGenMoves_c (s : Int) (q : Int) (r : Int) (w0 : World) (hs : (Lit.int .u64 s).wf = true) (hq : (Lit.int .u8 q).wf = true) (hr : (Lit.int .u8 r).wf = true) (hc : q % 40 = 0 ∧ r % 24 = 0) : Calls Try.prog 4 #[.int .u64 s, .int .u8 q, .int .u8 r] w0 fun e w' => e = .returned (.bool true) ∧ Below w0.heap.size w0 w' :=
  law_tie (G := GR Try.prog gvSpec [] gvFSpec gvcRSpec [] [] gvSplSpec [] [] [] w0) (gokR w0 namesOk_ mixed_ gv_ok trivial gvF_ok gvcR_ok) (n := 90) (f := 4) (args := [.int .u64 (.sym s), .int .u8 (.sym q), .int .u8 (.sym r)]) (by kernel_rfl) (VCGenMoves_c s q r) (tieGenMoves_c w0 s q r) (pureGenMoves_c w0 s q r ⟨wf_u64 hs, wf_u8 hq, wf_u8 hr, hc⟩)

end Go.Proofs.Ytifbolmkiafmgaa.A
