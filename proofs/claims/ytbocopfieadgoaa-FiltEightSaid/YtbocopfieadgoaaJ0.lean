import Derived.Test.YtbocopfieadgoaaSxR
import Derived.Test.YtbocopfieadgoaaProg
import Derived.Test.YtbocopfieadgoaaG
import Derived.KernelRfl
namespace Go.Proofs.Ytbocopfieadgoaa.J
open Go Go.Sx Go.RowKit Go.Proofs.Ytbocopfieadgoaa.C Go.Proofs.Ytbocopfieadgoaa.F
set_option linter.unusedVariables false
set_option maxRecDepth 100000
theorem namesOk_ : namesOk Try.prog = true := by kernel_rfl
theorem mixed_ : Try.prog.follows .mixedOrders = true := by kernel_rfl
def fGoodSpec : CSpec
  | [.agg [.int .i64 o, .int .i64 d, .int .i64 p, .int .i64 a]], k => ((I64 o.val) ∧ (I64 d.val) ∧ (I64 p.val) ∧ (I64 a.val)) ∧ (∀ r0 : Bool, r0 = (goodF o.val d.val p.val a.val) → k (.bool (.sym r0)))
  | _, _ => False
def VCFGood (o : Int) (d : Int) (p : Int) (a : Int) : Prop :=
  ∀ v1, v1 = decide ((-140737488355328 : Int) ≤ o) -> (v1 = true -> ∀ v2, v2 = decide (o ≤ (140737488355328 : Int)) -> (v2 = true -> ∀ v3, v3 = decide ((0 : Int) ≤ d) -> (v3 = true -> ∀ v4, v4 = decide (d ≤ (140737488355328 : Int)) -> (v4 = true -> ∀ v5, v5 = decide ((0 : Int) ≤ p) -> (v5 = true -> ∀ v6, v6 = decide (p ≤ (140737488355328 : Int)) -> (v6 = true -> ∀ v7, v7 = decide ((0 : Int) ≤ a) -> (v7 = true -> ∀ v8, v8 = decide (a ≤ (1099511627776 : Int)) -> v8 = goodF o d p a) /\ (v7 = false -> false = goodF o d p a)) /\ (v6 = false -> false = goodF o d p a)) /\ (v5 = false -> false = goodF o d p a)) /\ (v4 = false -> false = goodF o d p a)) /\ (v3 = false -> false = goodF o d p a)) /\ (v2 = false -> false = goodF o d p a)) /\ (v1 = false -> false = goodF o d p a)
theorem tieFGood (w0 : World) (o : Int) (d : Int) (p : Int) (a : Int) : VCFGood o d p a = ((recN (GC Try.prog [] w0) 20).call 26 [.agg [.int .i64 (.sym o), .int .i64 (.sym d), .int .i64 (.sym p), .int .i64 (.sym a)]] [] (fun r__ _ => eqV r__ (.bool (.sym (goodF o d p a))))) := by kernel_rfl
theorem pureFGood (o d p a : Int) (h : I64 o ∧ I64 d ∧ I64 p ∧ I64 a) : VCFGood o d p a := by
  refine br (fun e1 => br (fun e2 => br (fun e3 => br (fun e4 => br (fun e5 => br (fun e6 => br (fun e7 v8 h8 => ?_) fun e => ?_) fun e => ?_) fun e => ?_) fun e => ?_) fun e => ?_) fun e => ?_) fun e => ?_
  · rw [h8]
    unfold goodF
    exact decide_eq_decide.2 ⟨fun h => by omega, fun h => by omega⟩
  all_goals exact (decide_eq_false (by omega)).symm
theorem fGood_ok : SpecOk Try.prog 26 fGoodSpec := by
  intro args k h
  unfold fGoodSpec at h
  split at h
  · rename_i o d p a
    obtain ⟨hr, h⟩ := h
    exact ⟨_, h _ rfl, PureOk.of_tie (GC Try.prog []) (fun w__ => gok w__ namesOk_ mixed_ trivial) (fun _ => rfl) (fun _ => rfl) (args' := [.agg [.int .i64 (.sym o.val), .int .i64 (.sym d.val), .int .i64 (.sym p.val), .int .i64 (.sym a.val)]]) ⟨⟨⟨rfl, rfl⟩, ⟨rfl, rfl⟩, ⟨rfl, rfl⟩, ⟨rfl, rfl⟩, trivial⟩, trivial⟩ 20 (fun w__ => VCFGood o.val d.val p.val a.val) (fun w__ => tieFGood w__ o.val d.val p.val a.val) (fun w__ => pureFGood o.val d.val p.val a.val hr)⟩
  · exact h.elim

end Go.Proofs.Ytbocopfieadgoaa.J
