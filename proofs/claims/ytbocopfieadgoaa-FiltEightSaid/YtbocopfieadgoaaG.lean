import Derived.Test.YtbocopfieadgoaaSxR
import Derived.Test.YtbocopfieadgoaaProg
import Derived.Test.YtbocopfieadgoaaF
import Derived.KernelRfl
namespace Go.Proofs.Ytbocopfieadgoaa.F
open Go Go.Sx Go.RowKit Go.Proofs.Ytbocopfieadgoaa.C
set_option linter.unusedVariables false
set_option maxRecDepth 100000
def agSpec : List (FuncId × CSpec) := [(11, agedSpec), (16, rAgedSpec)]
theorem ag_ok : SpecsOk Try.prog agSpec := ⟨aged_ok, rAged_ok, trivial⟩
theorem aged_in {o d p a now : Int} (hg : goodF o d p a = true) : 0 ≤ agedF p a now ∧ agedF p a now ≤ 140737488355328 := by
  rw [good_iff] at hg
  have b := age_in a now
  unfold agedF least
  rw [scaled15 (by omega)]
  split <;> omega
def rootSpec : CSpec
  | [.agg [.int .i64 o, .int .i64 d, .int .i64 p, .int .i64 a], .int .i64 now], k => ((I64 o.val) ∧ (I64 d.val) ∧ (I64 p.val) ∧ (I64 a.val) ∧ (I64 now.val) ∧ (goodF o.val d.val p.val a.val = true)) ∧ (∀ r0 : Int, r0 = (rootF d.val p.val a.val now.val) → k (.int .i64 (.sym r0)))
  | _, _ => False
def VCRoot (o : Int) (d : Int) (p : Int) (a : Int) (now : Int) : Prop :=
  (I64 o /\ I64 d /\ I64 p /\ I64 a /\ I64 now /\ goodF o d p a = true) /\ ∀ v1, v1 = agedF p a now -> ∀ v2, v2 = IntKind.i64.wrap (d + (1 : Int)) -> ∀ v3, v3 = shrI IntKind.i64 v2 (1 : Int) -> ∀ v4, v4 = IntKind.i64.wrap (v1 + v3) -> ∀ (v5 : Int), (v5 = if (140737488355328 : Int) < v4 then (140737488355328 : Int) else v4) -> IntKind.i64 = IntKind.i64 /\ v5 = rootF d p a now
theorem tieRoot (w0 : World) (o : Int) (d : Int) (p : Int) (a : Int) (now : Int) : VCRoot o d p a now = ((recN (GC Try.prog agSpec w0) 20).call 10 [.agg [.int .i64 (.sym o), .int .i64 (.sym d), .int .i64 (.sym p), .int .i64 (.sym a)], .int .i64 (.sym now)] [] (fun r__ _ => eqV r__ (.int .i64 (.sym (rootF d p a now))))) := by kernel_rfl
theorem pureRoot (o d p a now : Int) (h : I64 o ∧ I64 d ∧ I64 p ∧ I64 a ∧ I64 now ∧ goodF o d p a = true) : VCRoot o d p a now := by
  have hg := h.2.2.2.2.2
  have b := aged_in (now := now) hg
  rw [good_iff] at hg
  refine ⟨h, fun v1 h1 v2 h2 v3 h3 v4 h4 v5 h5 => ⟨rfl, ?_⟩⟩
  rw [← h1] at b
  rw [i64_id (by omega) (by omega)] at h2
  rw [shr1i] at h3
  rw [i64_id (by omega) (by omega)] at h4
  unfold rootF least
  rw [← h1, ← h2, ← h3, ← h4]
  exact h5
theorem root_ok : SpecOk Try.prog 10 rootSpec := by
  intro args k h
  unfold rootSpec at h
  split at h
  · rename_i o d p a now
    obtain ⟨hr, h⟩ := h
    exact ⟨_, h _ rfl, PureOk.of_tie (GC Try.prog agSpec) (fun w__ => gok w__ namesOk_ mixed_ ag_ok) (fun _ => rfl) (fun _ => rfl) (args' := [.agg [.int .i64 (.sym o.val), .int .i64 (.sym d.val), .int .i64 (.sym p.val), .int .i64 (.sym a.val)], .int .i64 (.sym now.val)]) ⟨⟨⟨rfl, rfl⟩, ⟨rfl, rfl⟩, ⟨rfl, rfl⟩, ⟨rfl, rfl⟩, trivial⟩, ⟨rfl, rfl⟩, trivial⟩ 20 (fun w__ => VCRoot o.val d.val p.val a.val now.val) (fun w__ => tieRoot w__ o.val d.val p.val a.val now.val) (fun w__ => pureRoot o.val d.val p.val a.val now.val hr)⟩
  · exact h.elim

def rRootSpec : CSpec
  | [.agg [.int .i64 o, .int .i64 d, .int .i64 p, .int .i64 a], .int .i64 now], k => ((I64 o.val) ∧ (I64 d.val) ∧ (I64 p.val) ∧ (I64 a.val) ∧ (I64 now.val) ∧ (goodF o.val d.val p.val a.val = true)) ∧ (∀ r0 : Int, r0 = (rootF d.val p.val a.val now.val) → k (.int .i64 (.sym r0)))
  | _, _ => False
def VCRRoot (o : Int) (d : Int) (p : Int) (a : Int) (now : Int) : Prop :=
  (I64 o /\ I64 d /\ I64 p /\ I64 a /\ I64 now /\ goodF o d p a = true) /\ ∀ v1, v1 = agedF p a now -> ∀ v2, v2 = IntKind.i64.wrap (d + (1 : Int)) -> ∀ v3, v3 = IntKind.i64.wrap (v2.tdiv (2 : Int)) -> ∀ v4, v4 = IntKind.i64.wrap (v1 + v3) -> ∀ (v5 : Int), (v5 = if (140737488355328 : Int) < v4 then (140737488355328 : Int) else v4) -> IntKind.i64 = IntKind.i64 /\ v5 = rootF d p a now
theorem tieRRoot (w0 : World) (o : Int) (d : Int) (p : Int) (a : Int) (now : Int) : VCRRoot o d p a now = ((recN (GC Try.prog agSpec w0) 20).call 17 [.agg [.int .i64 (.sym o), .int .i64 (.sym d), .int .i64 (.sym p), .int .i64 (.sym a)], .int .i64 (.sym now)] [] (fun r__ _ => eqV r__ (.int .i64 (.sym (rootF d p a now))))) := by kernel_rfl
theorem pureRRoot (o d p a now : Int) (h : I64 o ∧ I64 d ∧ I64 p ∧ I64 a ∧ I64 now ∧ goodF o d p a = true) : VCRRoot o d p a now := by
  have hg := h.2.2.2.2.2
  have b := aged_in (now := now) hg
  rw [good_iff] at hg
  refine ⟨h, fun v1 h1 v2 h2 v3 h3 v4 h4 v5 h5 => ⟨rfl, ?_⟩⟩
  rw [← h1] at b
  rw [i64_id (by omega) (by omega)] at h2
  rw [tdiv_nonneg (by omega), i64_id (by omega) (by omega)] at h3
  rw [i64_id (by omega) (by omega)] at h4
  unfold rootF least
  rw [← h1, ← h2, ← h3, ← h4]
  exact h5
theorem rRoot_ok : SpecOk Try.prog 17 rRootSpec := by
  intro args k h
  unfold rRootSpec at h
  split at h
  · rename_i o d p a now
    obtain ⟨hr, h⟩ := h
    exact ⟨_, h _ rfl, PureOk.of_tie (GC Try.prog agSpec) (fun w__ => gok w__ namesOk_ mixed_ ag_ok) (fun _ => rfl) (fun _ => rfl) (args' := [.agg [.int .i64 (.sym o.val), .int .i64 (.sym d.val), .int .i64 (.sym p.val), .int .i64 (.sym a.val)], .int .i64 (.sym now.val)]) ⟨⟨⟨rfl, rfl⟩, ⟨rfl, rfl⟩, ⟨rfl, rfl⟩, ⟨rfl, rfl⟩, trivial⟩, ⟨rfl, rfl⟩, trivial⟩ 20 (fun w__ => VCRRoot o.val d.val p.val a.val now.val) (fun w__ => tieRRoot w__ o.val d.val p.val a.val now.val) (fun w__ => pureRRoot o.val d.val p.val a.val now.val hr)⟩
  · exact h.elim

end Go.Proofs.Ytbocopfieadgoaa.F
