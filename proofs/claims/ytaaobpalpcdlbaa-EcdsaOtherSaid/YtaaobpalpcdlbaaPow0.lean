import Derived.Test.YtaaobpalpcdlbaaSxR
import Derived.Test.YtaaobpalpcdlbaaProg
import Derived.Test.YtaaobpalpcdlbaaNum13
import Derived.KernelRfl
namespace Go.Proofs.Ytaaobpalpcdlbaa.Bits
open Go Go.Sx Go.RowKit
set_option linter.unusedVariables false
set_option maxRecDepth 100000
def hKeepSpec (S : St) (b : Nat) (ks : List Nat) : St := match hget S.hp b with
  | some (.loop st pe ts ps asg body db) => ⟨S.ts, S.df, hput S.hp b (some (.loop st pe (keepTs ks 0 ts) ps asg body db))⟩
  | _ => S
theorem lenF_lt {e : Int} (h : 0 ≤ e) : 0 ≤ lenF e ∧ e < 2 ^ (lenF e).toNat := by
  by_cases z : e = 0
  · subst z; unfold lenF; simp
  · obtain ⟨k, ek, k1, k2⟩ := lenF_spec (show 0 < e by omega)
    rw [ek]
    exact ⟨by omega, by have : ((k : Int) + 1).toNat = k + 1 := by omega
                        rw [this]; exact k2⟩
end Go.Proofs.Ytaaobpalpcdlbaa.Bits
