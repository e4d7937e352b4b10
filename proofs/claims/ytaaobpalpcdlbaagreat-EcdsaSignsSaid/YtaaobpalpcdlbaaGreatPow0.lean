import Derived.Test.YtaaobpalpcdlbaaGreatSxR
import Derived.Test.YtaaobpalpcdlbaaGreatProg
import Derived.Test.YtaaobpalpcdlbaaGreatNum13
import Derived.KernelRfl
namespace Go.Proofs.YtaaobpalpcdlbaaGreat.Bits
open Go Go.Sx Go.RowKit
set_option linter.unusedVariables false
set_option maxRecDepth 100000
def hKeepSpec (S:St) (b:Nat) (ks:List Nat):St:=match hget S.hp b with
 | some (.loop st pe ts ps asg body db)=>⟨S.ts,S.df,hput S.hp b (some (.loop st pe (keepTs ks 0 ts) ps asg body db))⟩
 | _=>S
theorem lenF_lt {e:Int} (h:0<=e):0<=lenF e/\e<2^(lenF e).toNat:=by
 by_cases z:e=0
 ·subst z; unfold lenF; simp
 ·obtain ⟨k,ek,k1,k2⟩:=lenF_spec (show 0<e by omega)
  rw [ek]
  have e3:((k:Int)+1).toNat=k+1:=by omega
  exact ⟨by omega,by rw [e3]; exact k2⟩
end Go.Proofs.YtaaobpalpcdlbaaGreat.Bits
