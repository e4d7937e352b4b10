import Derived.Test.YtaaobpalpcdlbaaSxJ
set_option linter.unusedVariables false
namespace Go.Sx
open Go.RowKit (Below)

def G0 (P : Program) (w0 : World) : Glob := { P := P, w0 := w0, orc := fun _ => none, ann := fun _ _ => none, cut := fun _ _ => none }

def isTrue : SV → Prop
  | .bool (.lit b) => b = true
  | .bool (.sym b) => b = true
  | _ => False

theorem isTrue_den {v : SV} (h : isTrue v) (η : Nat → Nat) : v.den η = .bool true := by
  unfold isTrue at h
  split at h
  · subst h; rfl
  · subst h; rfl
  · cases h

def namesOk (P : Program) : Bool := P.funcs.toList.all fun fn => !(fn.name == "runtime.NumGoroutine")

theorem GOk.mk0 {G : Glob} (h1 : namesOk G.P = true) (h2 : G.P.follows .mixedOrders = true)
    (h3 : ∀ f C, G.orc f = some C → ∀ args hp K, C args hp K → ∃ v hp', K v hp' ∧ CallOk G f args hp v hp') : GOk G := by
  refine ⟨fun f fn hf => ?_, h2, h3⟩
  unfold namesOk at h1
  rw [List.all_eq_true] at h1
  have hm : fn ∈ G.P.funcs.toList := by
    rw [← Array.getElem?_toList] at hf
    exact List.mem_of_getElem? hf
  have := h1 fn hm
  simpa using this

theorem HR.start (w : World) : HR w (fun i => i) [] w :=
  ⟨⟨rfl, rfl, rfl, Nat.le_refl _, fun _ _ => rfl⟩, fun i b hb => by simp [hget] at hb, fun i b hb => by simp [hget] at hb, fun i j bi bj hb => by simp [hget] at hb⟩

theorem calls_of_fnRun {P : Program} {G : Glob} (hG : GOk G) (hP : G.P = P) {f : FuncId} (hb : hasBody P f = true) {args : Array Value} {w : World} {R : Value → World → Prop} (h : FnRun P f args w R) :
    Calls P f args w fun e w' => ∃ v, e = .returned v ∧ R v w' := by
  subst hP
  obtain ⟨nx, hrun, hnx⟩ := h
  rw [run_callFunc hG hb args w] at hrun
  injection hrun with hrun
  subst hrun
  exact callsIn_wide.1 hnx

theorem law_calls {G : Glob} (hG : GOk G) {n : Nat} {f : FuncId} {args : List SV} (hb : hasBody G.P f = true) (h : (recN G n).call f args [] (fun v _ => isTrue v)) :
    Calls G.P f (SV.dens (fun i => i) args).toArray G.w0 fun e w' => e = .returned (.bool true) ∧ Below G.w0.heap.size G.w0 w' := by
  obtain ⟨v, hp', hK, hc⟩ := call_sound hG n h
  refine (calls_of_fnRun hG rfl hb (hc (fun i => i) G.w0 (HR.start G.w0))).mono ?_
  rintro e w' ⟨x, rfl, η', rfl, h1, _⟩
  exact ⟨by rw [isTrue_den hK], h1.base⟩

mutual
def eqV : SV → SV → Prop
  | .bool a, .bool b => a.val = b.val
  | .int k a, .int l b => k = l ∧ a.val = b.val
  | .str a, .str b => a.val = b.val
  | .agg cs, .agg ds => eqVs cs ds
  | .tup cs, .tup ds => eqVs cs ds
  | _, _ => False
def eqVs : List SV → List SV → Prop
  | [], [] => True
  | c :: cs, d :: ds => eqV c d ∧ eqVs cs ds
  | _, _ => False
end

mutual
theorem eqV_den : ∀ {v u : SV}, eqV v u → ∀ η η', v.den η = u.den η'
  | .bool a, .bool b, h, η, η' => by simp only [eqV] at h; simp [SV.den, h]
  | .int k a, .int l b, h, η, η' => by simp only [eqV] at h; simp [SV.den, h]
  | .str a, .str b, h, η, η' => by simp only [eqV] at h; simp [SV.den, h]
  | .agg cs, .agg ds, h, η, η' => by simp only [eqV] at h; simp only [SV.den]; rw [eqVs_den h η η']
  | .tup cs, .tup ds, h, η, η' => by simp only [eqV] at h; simp only [SV.den]; rw [eqVs_den h η η']
theorem eqVs_den : ∀ {cs ds : List SV}, eqVs cs ds → ∀ η η', SV.dens η cs = SV.dens η' ds
  | [], [], _, η, η' => rfl
  | c :: cs, d :: ds, h, η, η' => by
    simp only [eqVs] at h
    simp only [SV.dens]
    rw [eqV_den h.1 η η', eqVs_den h.2 η η']
end

theorem FnRun.mono {P : Program} {f : FuncId} {args : Array Value} {w : World} {R R' : Value → World → Prop} (h : FnRun P f args w R) (hR : ∀ x w', R x w' → R' x w') : FnRun P f args w R' := by
  obtain ⟨nx, hrun, hnx⟩ := h
  refine ⟨nx, hrun, ?_⟩
  cases nx with
  | value v => exact hR _ _ hnx
  | enter g as => exact CallsIn.mono hnx fun e w' ⟨v, h1, h2⟩ => ⟨v, h1, hR _ _ h2⟩
  | row row as => exact RowsIn.mono hnx fun x w' h => hR _ _ h
  | _ => exact hnx.elim

def PureOk (P : Program) (f : FuncId) (args : List SV) (v : SV) : Prop :=
  ∀ η w, FnRun P f (SV.dens η args).toArray w fun x w' => x = v.den η ∧ Below w.heap.size w w'

theorem PureOk.of_walk {P : Program} {f : FuncId} {args args' : List SV} {v : SV} (G : World → Glob) (hG : ∀ w, GOk (G w)) (hP : ∀ w, (G w).P = P) (hw : ∀ w, (G w).w0 = w)
    (ha : eqVs args args') (n : Nat) (h : ∀ w, (recN (G w) n).call f args' [] (fun u _ => eqV u v)) : PureOk P f args v := by
  intro η w
  obtain ⟨u, hp', hK, hc⟩ := call_sound (hG w) n (h w)
  have h0 : HR (G w).w0 (fun i => i) [] w := by rw [hw w]; exact HR.start w
  have := hc (fun i => i) w h0
  rw [hP w, ← eqVs_den ha η (fun i => i)] at this
  refine this.mono ?_
  rintro x w' ⟨η', rfl, h1, _⟩
  refine ⟨eqV_den hK _ _, ?_⟩
  have := h1.base
  rwa [hw w] at this

theorem PureOk.of_tie {P : Program} {f : FuncId} {args args' : List SV} {v : SV} (G : World → Glob) (hG : ∀ w, GOk (G w)) (hP : ∀ w, (G w).P = P) (hw : ∀ w, (G w).w0 = w)
    (ha : eqVs args args') (n : Nat) (VC : World → Prop) (tie : ∀ w, VC w = (recN (G w) n).call f args' [] (fun u _ => eqV u v)) (h : ∀ w, VC w) : PureOk P f args v :=
  PureOk.of_walk G hG hP hw ha n fun w => by rw [← tie w]; exact h w

theorem law_tie {G : Glob} (hG : GOk G) {n : Nat} {f : FuncId} {args : List SV} (hb : hasBody G.P f = true) (VC : Prop) (tie : VC = (recN G n).call f args [] (fun v _ => isTrue v)) (h : VC) :
    Calls G.P f (SV.dens (fun i => i) args).toArray G.w0 fun e w' => e = .returned (.bool true) ∧ Below G.w0.heap.size G.w0 w' :=
  law_calls hG hb (by rw [← tie]; exact h)

theorem PureOk.call {G : Glob} {f : FuncId} {args : List SV} {v : SV} (h : PureOk G.P f args v) (hp : Hp) : CallOk G f args hp v hp := by
  intro η w hw
  refine (h η w).mono ?_
  rintro x w' ⟨rfl, hb⟩
  obtain ⟨m1, m2⟩ := move_grow hw hb
  exact ⟨η, rfl, m1, m2⟩

abbrev CSpec := List SV → (SV → Prop) → Prop
def SpecOk (P : Program) (f : FuncId) (s : CSpec) : Prop := ∀ args k, s args k → ∃ v, k v ∧ PureOk P f args v
def pcon (s : CSpec) : Con := fun args hp K => s args fun v => K v hp
def lookC : List (FuncId × CSpec) → FuncId → Option Con
  | [], _ => none
  | (g, s) :: r, f => match Nat.beq f g with | true => some (pcon s) | false => lookC r f

def GC (P : Program) (l : List (FuncId × CSpec)) (w0 : World) : Glob := { P := P, w0 := w0, orc := lookC l, ann := fun _ _ => none, cut := fun _ _ => none }

def lookA : List (FuncId × Nat × (St → Inv)) → FuncId → Nat → Option (St → Inv)
  | [], _, _ => none
  | (g, b, s) :: r, f, i => match Nat.beq f g, Nat.beq i b with | true, true => some s | _, _ => lookA r f i
abbrev Anns := List (FuncId × Nat × (St → Inv))
def GL (P : Program) (l : List (FuncId × CSpec)) (as cs : Anns) (w0 : World) : Glob := { P := P, w0 := w0, orc := lookC l, ann := lookA as, cut := lookA cs }
abbrev Spls := List (FuncId × Nat × List (Tmp × List Int))
def lookS : Spls → FuncId → Nat → List (Tmp × List Int)
  | [], _, _ => []
  | (g, b, s) :: r, f, i => match Nat.beq f g, Nat.beq i b with | true, true => s | _, _ => lookS r f i
def GS (P : Program) (l : List (FuncId × CSpec)) (as cs : Anns) (sp : Spls) (w0 : World) : Glob := { P := P, w0 := w0, orc := lookC l, ann := lookA as, cut := lookA cs, spl := lookS sp }
def lookP : List (FuncId × Nat) → FuncId → Nat → Bool
  | [], _, _ => false
  | (g, b) :: r, f, i => match Nat.beq f g, Nat.beq i b with | true, true => true | _, _ => lookP r f i
def GQ (P : Program) (l : List (FuncId × CSpec)) (as cs : Anns) (sp : Spls) (pl : List (FuncId × Nat)) (w0 : World) : Glob := { P := P, w0 := w0, orc := lookC l, ann := lookA as, cut := lookA cs, spl := lookS sp, peel := lookP pl }
def flen (S : St) (b : Nat) : Int := match hget S.hp b with | some (.fblk n _ _ _) => n | _ => 0
def fat (S : St) (b j : Nat) : Int → Int := match hget S.hp b with | some (.fblk _ fs _ _) => (match fnth fs j with | some (.int _ f) => f | _ => fun _ => 0) | _ => fun _ => 0
def setF (S : St) (b : Nat) (n : Int) (fs : List FC) : St := match hget S.hp b with
  | some (.cells _ ty tl) => ⟨S.ts, S.df, hput S.hp b (some (.fblk n fs ty tl))⟩
  | some (.fblk _ _ ty tl) => ⟨S.ts, S.df, hput S.hp b (some (.fblk n fs ty tl))⟩
  | _ => S
def iat (S : St) (t : Nat) : Int := match nth S.ts t with | .int _ n => n.val | _ => 0
def bat (S : St) (t : Nat) : Bool := match nth S.ts t with | .bool n => n.val | _ => false
def hat (S : St) (b o : Nat) : Int := match hget S.hp b with | some (.cells cs _ _) => (match nth cs o with | .int _ n => n.val | _ => 0) | _ => 0
def hset (S : St) (b o : Nat) (v : SV) : St := match hget S.hp b with | some (.cells cs ty tl) => ⟨S.ts, S.df, hput S.hp b (some (.cells (put cs o v) ty tl))⟩ | _ => S
def stS (S : St) : List (Nat × SV) → St
  | [] => S
  | (t, v) :: r => stS ⟨put S.ts t v, S.df, S.hp⟩ r
def anyS (S : St) : List Nat → St
  | [] => S
  | t :: r => anyS ⟨put S.ts t .any, S.df, S.hp⟩ r

def keepTs (ks : List Nat) : Nat → List SV → List SV
  | _, [] => []
  | i, v :: r => (match memN i ks with | true => v | false => .any) :: keepTs ks (i + 1) r
def keepS (S : St) (ks : List Nat) : St := ⟨keepTs ks 0 S.ts, S.df, S.hp⟩

def SpecsOk (P : Program) : List (FuncId × CSpec) → Prop
  | [] => True
  | (g, s) :: r => SpecOk P g s ∧ SpecsOk P r

theorem lookC_ok {P : Program} {G : Glob} (hP : G.P = P) : ∀ {l : List (FuncId × CSpec)}, SpecsOk P l → ∀ {f : FuncId} {C : Con}, lookC l f = some C → ∀ args hp K, C args hp K → ∃ v hp', K v hp' ∧ CallOk G f args hp v hp'
  | [], _, f, C, h, _, _, _, _ => by simp [lookC] at h
  | (g, s) :: r, hs, f, C, h, args, hp, K, hC => by
    simp only [lookC] at h
    split at h
    · rename_i hfg
      have hfg := Nat.eq_of_beq_eq_true hfg
      subst hfg
      injection h with h
      subst h
      obtain ⟨v, hv, hp'⟩ := hs.1 args _ hC
      subst hP
      exact ⟨v, hp, hv, hp'.call hp⟩
    · exact lookC_ok hP hs.2 h args hp K hC

theorem gok {P : Program} {l : List (FuncId × CSpec)} (w0 : World) (h1 : namesOk P = true) (h2 : P.follows .mixedOrders = true) (h3 : SpecsOk P l) : GOk (GC P l w0) :=
  GOk.mk0 h1 h2 fun f C h args hp K hC => lookC_ok rfl h3 h args hp K hC

theorem gokL {P : Program} {l : List (FuncId × CSpec)} {as cs : Anns} (w0 : World) (h1 : namesOk P = true) (h2 : P.follows .mixedOrders = true) (h3 : SpecsOk P l) : GOk (GL P l as cs w0) :=
  GOk.mk0 h1 h2 fun f C h args hp K hC => lookC_ok rfl h3 h args hp K hC

theorem gokQ {P : Program} {l : List (FuncId × CSpec)} {as cs : Anns} {sp : Spls} {pl : List (FuncId × Nat)} (w0 : World) (h1 : namesOk P = true) (h2 : P.follows .mixedOrders = true) (h3 : SpecsOk P l) : GOk (GQ P l as cs sp pl w0) :=
  GOk.mk0 h1 h2 fun f C h args hp K hC => lookC_ok rfl h3 h args hp K hC

theorem gokS {P : Program} {l : List (FuncId × CSpec)} {as cs : Anns} {sp : Spls} (w0 : World) (h1 : namesOk P = true) (h2 : P.follows .mixedOrders = true) (h3 : SpecsOk P l) : GOk (GS P l as cs sp w0) :=
  GOk.mk0 h1 h2 fun f C h args hp K hC => lookC_ok rfl h3 h args hp K hC

end Go.Sx
