/- From a symbolic walk to a law's row. Own text. -/
import Derived.Test.YtljdjdckgkpnpaaSxJ
namespace Go.Sx
open Go.RowKit (Below)

/-- Nothing is given: each callee is walked. -/
def G0 (P : Program) (w0 : World) : Glob := { P := P, w0 := w0, orc := fun _ => none, ann := fun _ _ => none, cut := fun _ _ => none }

/-- It is true. -/
def isTrue : SV → Prop
  | .bool (.lit b) => b = true
  | .bool (.sym b) => b = true
  | _ => False

theorem isTrue_den {v : SV} (h : isTrue v) (η : Nat → Nat) : v.den η = .bool true := by
  unfold isTrue at h
  split at h
  · subst h; rfl
  · subst h; rfl
  · cases h

def namesOk (P : Program) : Bool := P.funcs.toList.all fun fn => !(fn.name == "runtime.NumGoroutine")

theorem GOk.mk0 {G : Glob} (h1 : namesOk G.P = true) (h2 : G.P.follows .mixedOrders = true)
    (h3 : ∀ f C, G.orc f = some C → ∀ args hp K, C args hp K → ∃ v hp', K v hp' ∧ CallOk G f args hp v hp') : GOk G := by
  refine ⟨fun f fn hf => ?_, h2, h3⟩
  unfold namesOk at h1
  rw [List.all_eq_true] at h1
  have hm : fn ∈ G.P.funcs.toList := by
    rw [← Array.getElem?_toList] at hf
    exact List.mem_of_getElem? hf
  have := h1 fn hm
  simpa using this

theorem HR.start (w : World) : HR w (fun i => i) [] w :=
  ⟨⟨rfl, rfl, rfl, Nat.le_refl _, fun _ _ => rfl⟩, fun i b hb => by simp [hget] at hb, fun i b hb => by simp [hget] at hb, fun i j bi bj hb => by simp [hget] at hb⟩

theorem calls_of_fnRun {P : Program} {G : Glob} (hG : GOk G) (hP : G.P = P) {f : FuncId} (hb : hasBody P f = true) {args : Array Value} {w : World} {R : Value → World → Prop} (h : FnRun P f args w R) :
    Calls P f args w fun e w' => ∃ v, e = .returned v ∧ R v w' := by
  subst hP
  obtain ⟨nx, hrun, hnx⟩ := h
  rw [run_callFunc hG hb args w] at hrun
  injection hrun with hrun
  subst hrun
  exact callsIn_wide.1 hnx

/-- A law whose walk ends in true. -/
theorem law_calls {G : Glob} (hG : GOk G) {n : Nat} {f : FuncId} {args : List SV} (hb : hasBody G.P f = true) (h : (recN G n).call f args [] (fun v _ => isTrue v)) :
    Calls G.P f (SV.dens (fun i => i) args).toArray G.w0 fun e w' => e = .returned (.bool true) ∧ Below G.w0.heap.size G.w0 w' := by
  obtain ⟨v, hp', hK, hc⟩ := call_sound hG n h
  refine (calls_of_fnRun hG rfl hb (hc (fun i => i) G.w0 (HR.start G.w0))).mono ?_
  rintro e w' ⟨x, rfl, η', rfl, h1, _⟩
  exact ⟨by rw [isTrue_den hK], h1.base⟩

end Go.Sx
