import Derived.Test.YtifbolmkiafmgaaSxJ
import Derived.IntWalk
import Derived.RowKit
import Derived.Test.YtifbolmkiafmgaaSxB
import Derived.WalkKit
import Derived.ProofKit
import Derived.OpenShut
set_option linter.unusedVariables false
namespace Go.Sx
open Go.RowKit (Below)

def G0 (P : Program) (w0 : World) : Glob := { P := P, w0 := w0, orc := fun _ => none, ann := fun _ _ => none, cut := fun _ _ => none }

def isTrue : SV → Prop
  | .bool (.lit b) => b = true
  | .bool (.sym b) => b = true
  | _ => False

theorem isTrue_den {v : SV} (h : isTrue v) (η : Nat → Nat) : v.den η = .bool true := by
  unfold isTrue at h
  split at h
  · subst h; rfl
  · subst h; rfl
  · cases h

def namesOk (P : Program) : Bool := P.funcs.toList.all fun fn => !(fn.name == "runtime.NumGoroutine")

theorem GOk.mk0 {G : Glob} (h1 : namesOk G.P = true) (h2 : G.P.follows .mixedOrders = true)
    (h3 : ∀ f C, G.orc f = some C → ∀ args hp K, C args hp K → ∃ v hp', K v hp' ∧ CallOk G f args hp v hp')
    (h4 : ∀ f, G.calm f = true → ∃ C, G.orc f = some C ∧ ∀ args hp K, C args hp K → ∃ v hp', K v hp' ∧ CallOk G f args hp v hp' ∧ ∃ e, hp' = hp ++ e := by exact fun _ h => Bool.noConfusion h) : GOk G := by
  refine ⟨fun f fn hf => ?_, h2, h3, h4⟩
  unfold namesOk at h1
  rw [List.all_eq_true] at h1
  have hm : fn ∈ G.P.funcs.toList := by
    rw [← Array.getElem?_toList] at hf
    exact List.mem_of_getElem? hf
  have := h1 fn hm
  simpa using this

theorem HR.start (w : World) : HR w (fun i => i) [] w :=
  ⟨⟨rfl, rfl, rfl, Nat.le_refl _, fun _ _ => rfl⟩, fun i b hb => by simp [hget] at hb, fun i b hb => by simp [hget] at hb, fun i j bi bj hb => by simp [hget] at hb⟩

theorem calls_of_fnRun {P : Program} {G : Glob} (hG : GOk G) (hP : G.P = P) {f : FuncId} (hb : hasBody P f = true) {args : Array Value} {w : World} {R : Value → World → Prop} (h : FnRun P f args w R) :
    Calls P f args w fun e w' => ∃ v, e = .returned v ∧ R v w' := by
  subst hP
  obtain ⟨nx, hrun, hnx⟩ := h
  rw [run_callFunc hG hb args w] at hrun
  injection hrun with hrun
  subst hrun
  exact callsIn_wide.1 hnx

theorem law_calls {G : Glob} (hG : GOk G) {n : Nat} {f : FuncId} {args : List SV} (hb : hasBody G.P f = true) (h : (recN G n).call f args [] (fun v _ => isTrue v)) :
    Calls G.P f (SV.dens (fun i => i) args).toArray G.w0 fun e w' => e = .returned (.bool true) ∧ Below G.w0.heap.size G.w0 w' := by
  obtain ⟨v, hp', hK, hc⟩ := call_sound hG n h
  refine (calls_of_fnRun hG rfl hb (hc (fun i => i) G.w0 (HR.start G.w0))).mono ?_
  rintro e w' ⟨x, rfl, η', rfl, h1, _⟩
  exact ⟨by rw [isTrue_den hK], h1.base⟩

mutual
def eqV : SV → SV → Prop
  | .bool a, .bool b => a.val = b.val
  | .int k a, .int l b => k = l ∧ a.val = b.val
  | .str a, .str b => a.val = b.val
  | .agg cs, .agg ds => eqVs cs ds
  | .tup cs, .tup ds => eqVs cs ds
  | .bsl a n c _, .bsl b m d _ => a = b ∧ n = m ∧ c = d
  | .val v, .val u => v = u
  | _, _ => False
def eqVs : List SV → List SV → Prop
  | [], [] => True
  | c :: cs, d :: ds => eqV c d ∧ eqVs cs ds
  | _, _ => False
end

mutual
theorem eqV_den : ∀ {v u : SV}, eqV v u → ∀ η η', v.den η = u.den η'
  | .bool a, .bool b, h, η, η' => by simp only [eqV] at h; simp [SV.den, h]
  | .int k a, .int l b, h, η, η' => by simp only [eqV] at h; simp [SV.den, h]
  | .str a, .str b, h, η, η' => by simp only [eqV] at h; simp [SV.den, h]
  | .agg cs, .agg ds, h, η, η' => by simp only [eqV] at h; simp only [SV.den]; rw [eqVs_den h η η']
  | .tup cs, .tup ds, h, η, η' => by simp only [eqV] at h; simp only [SV.den]; rw [eqVs_den h η η']
  | .bsl a n c _, .bsl b m d _, h, η, η' => by simp only [eqV] at h; simp only [SV.den]; rw [h.1, h.2.1, h.2.2]
  | .val v, .val u, h, η, η' => by simp only [eqV] at h; simp only [SV.den]; exact h
theorem eqVs_den : ∀ {cs ds : List SV}, eqVs cs ds → ∀ η η', SV.dens η cs = SV.dens η' ds
  | [], [], _, η, η' => rfl
  | c :: cs, d :: ds, h, η, η' => by
    simp only [eqVs] at h
    simp only [SV.dens]
    rw [eqV_den h.1 η η', eqVs_den h.2 η η']
end

theorem FnRun.mono {P : Program} {f : FuncId} {args : Array Value} {w : World} {R R' : Value → World → Prop} (h : FnRun P f args w R) (hR : ∀ x w', R x w' → R' x w') : FnRun P f args w R' := by
  obtain ⟨nx, hrun, hnx⟩ := h
  refine ⟨nx, hrun, ?_⟩
  cases nx with
  | value v => exact hR _ _ hnx
  | enter g as => exact CallsIn.mono hnx fun e w' ⟨v, h1, h2⟩ => ⟨v, h1, hR _ _ h2⟩
  | row row as => exact RowsIn.mono hnx fun x w' h => hR _ _ h
  | _ => exact hnx.elim

def PureOk (P : Program) (f : FuncId) (args : List SV) (v : SV) : Prop :=
  ∀ η w, FnRun P f (SV.dens η args).toArray w fun x w' => x = v.den η ∧ Below w.heap.size w w'

theorem PureOk.of_walk {P : Program} {f : FuncId} {args args' : List SV} {v : SV} (G : World → Glob) (hG : ∀ w, GOk (G w)) (hP : ∀ w, (G w).P = P) (hw : ∀ w, (G w).w0 = w)
    (ha : eqVs args args') (n : Nat) (h : ∀ w, (recN (G w) n).call f args' [] (fun u _ => eqV u v)) : PureOk P f args v := by
  intro η w
  obtain ⟨u, hp', hK, hc⟩ := call_sound (hG w) n (h w)
  have h0 : HR (G w).w0 (fun i => i) [] w := by rw [hw w]; exact HR.start w
  have := hc (fun i => i) w h0
  rw [hP w, ← eqVs_den ha η (fun i => i)] at this
  refine this.mono ?_
  rintro x w' ⟨η', rfl, h1, _⟩
  refine ⟨eqV_den hK _ _, ?_⟩
  have := h1.base
  rwa [hw w] at this

theorem PureOk.of_tie {P : Program} {f : FuncId} {args args' : List SV} {v : SV} (G : World → Glob) (hG : ∀ w, GOk (G w)) (hP : ∀ w, (G w).P = P) (hw : ∀ w, (G w).w0 = w)
    (ha : eqVs args args') (n : Nat) (VC : World → Prop) (tie : ∀ w, VC w = (recN (G w) n).call f args' [] (fun u _ => eqV u v)) (h : ∀ w, VC w) : PureOk P f args v :=
  PureOk.of_walk G hG hP hw ha n fun w => by rw [← tie w]; exact h w

theorem law_tie {G : Glob} (hG : GOk G) {n : Nat} {f : FuncId} {args : List SV} (hb : hasBody G.P f = true) (VC : Prop) (tie : VC = (recN G n).call f args [] (fun v _ => isTrue v)) (h : VC) :
    Calls G.P f (SV.dens (fun i => i) args).toArray G.w0 fun e w' => e = .returned (.bool true) ∧ Below G.w0.heap.size G.w0 w' :=
  law_calls hG hb (by rw [← tie]; exact h)

theorem PureOk.call {G : Glob} {f : FuncId} {args : List SV} {v : SV} (h : PureOk G.P f args v) (hp : Hp) : CallOk G f args hp v hp := by
  intro η w hw
  refine (h η w).mono ?_
  rintro x w' ⟨rfl, hb⟩
  obtain ⟨m1, m2⟩ := move_grow hw hb
  exact ⟨η, rfl, m1, m2⟩

abbrev CSpec := List SV → (SV → Prop) → Prop
def SpecOk (P : Program) (f : FuncId) (s : CSpec) : Prop := ∀ args k, s args k → ∃ v, k v ∧ PureOk P f args v
def pcon (s : CSpec) : Con := fun args hp K => s args fun v => K v hp
def lookC : List (FuncId × CSpec) → FuncId → Option Con
  | [], _ => none
  | (g, s) :: r, f => match Nat.beq f g with | true => some (pcon s) | false => lookC r f

def GC (P : Program) (l : List (FuncId × CSpec)) (w0 : World) : Glob := { P := P, w0 := w0, orc := lookC l, ann := fun _ _ => none, cut := fun _ _ => none }

def lookA : List (FuncId × Nat × (St → Inv)) → FuncId → Nat → Option (St → Inv)
  | [], _, _ => none
  | (g, b, s) :: r, f, i => match Nat.beq f g, Nat.beq i b with | true, true => some s | _, _ => lookA r f i
abbrev Anns := List (FuncId × Nat × (St → Inv))
def GL (P : Program) (l : List (FuncId × CSpec)) (as cs : Anns) (w0 : World) : Glob := { P := P, w0 := w0, orc := lookC l, ann := lookA as, cut := lookA cs }
abbrev Spls := List (FuncId × Nat × List (Tmp × List Int))
def lookS : Spls → FuncId → Nat → List (Tmp × List Int)
  | [], _, _ => []
  | (g, b, s) :: r, f, i => match Nat.beq f g, Nat.beq i b with | true, true => s | _, _ => lookS r f i
def GS (P : Program) (l : List (FuncId × CSpec)) (as cs : Anns) (sp : Spls) (w0 : World) : Glob := { P := P, w0 := w0, orc := lookC l, ann := lookA as, cut := lookA cs, spl := lookS sp }
def lookP : List (FuncId × Nat) → FuncId → Nat → Bool
  | [], _, _ => false
  | (g, b) :: r, f, i => match Nat.beq f g, Nat.beq i b with | true, true => true | _, _ => lookP r f i
def GQ (P : Program) (l : List (FuncId × CSpec)) (as cs : Anns) (sp : Spls) (pl : List (FuncId × Nat)) (w0 : World) : Glob := { P := P, w0 := w0, orc := lookC l, ann := lookA as, cut := lookA cs, spl := lookS sp, peel := lookP pl }
def flen (S : St) (b : Nat) : Int := match hget S.hp b with | some (.fblk n _ _ _) => n | _ => 0
def fat (S : St) (b j : Nat) : Int → Int := match hget S.hp b with | some (.fblk _ fs _ _) => (match fnth fs j with | some (.int _ f) => f | _ => fun _ => 0) | _ => fun _ => 0
def setF (S : St) (b : Nat) (n : Int) (fs : List FC) : St := match hget S.hp b with
  | some (.cells _ ty tl) => ⟨S.ts, S.df, hput S.hp b (some (.fblk n fs ty tl))⟩
  | some (.fblk _ _ ty tl) => ⟨S.ts, S.df, hput S.hp b (some (.fblk n fs ty tl))⟩
  | _ => S
def iat (S : St) (t : Nat) : Int := match nth S.ts t with | .int _ n => n.val | _ => 0
def bat (S : St) (t : Nat) : Bool := match nth S.ts t with | .bool n => n.val | _ => false
def hat (S : St) (b o : Nat) : Int := match hget S.hp b with | some (.cells cs _ _) => (match nth cs o with | .int _ n => n.val | _ => 0) | _ => 0
def hset (S : St) (b o : Nat) (v : SV) : St := match hget S.hp b with | some (.cells cs ty tl) => ⟨S.ts, S.df, hput S.hp b (some (.cells (put cs o v) ty tl))⟩ | _ => S
def stS (S : St) : List (Nat × SV) → St
  | [] => S
  | (t, v) :: r => stS ⟨put S.ts t v, S.df, S.hp⟩ r
def anyS (S : St) : List Nat → St
  | [] => S
  | t :: r => anyS ⟨put S.ts t .any, S.df, S.hp⟩ r

def keepTs (ks : List Nat) : Nat → List SV → List SV
  | _, [] => []
  | i, v :: r => (match memN i ks with | true => v | false => .any) :: keepTs ks (i + 1) r
def keepS (S : St) (ks : List Nat) : St := ⟨keepTs ks 0 S.ts, S.df, S.hp⟩

def SpecsOk (P : Program) : List (FuncId × CSpec) → Prop
  | [] => True
  | (g, s) :: r => SpecOk P g s ∧ SpecsOk P r

theorem lookC_ok {P : Program} {G : Glob} (hP : G.P = P) : ∀ {l : List (FuncId × CSpec)}, SpecsOk P l → ∀ {f : FuncId} {C : Con}, lookC l f = some C → ∀ args hp K, C args hp K → ∃ v hp', K v hp' ∧ CallOk G f args hp v hp'
  | [], _, f, C, h, _, _, _, _ => by simp [lookC] at h
  | (g, s) :: r, hs, f, C, h, args, hp, K, hC => by
    simp only [lookC] at h
    split at h
    · rename_i hfg
      have hfg := Nat.eq_of_beq_eq_true hfg
      subst hfg
      injection h with h
      subst h
      obtain ⟨v, hv, hp'⟩ := hs.1 args _ hC
      subst hP
      exact ⟨v, hp, hv, hp'.call hp⟩
    · exact lookC_ok hP hs.2 h args hp K hC

theorem gok {P : Program} {l : List (FuncId × CSpec)} (w0 : World) (h1 : namesOk P = true) (h2 : P.follows .mixedOrders = true) (h3 : SpecsOk P l) : GOk (GC P l w0) :=
  GOk.mk0 h1 h2 fun f C h args hp K hC => lookC_ok rfl h3 h args hp K hC

theorem gokL {P : Program} {l : List (FuncId × CSpec)} {as cs : Anns} (w0 : World) (h1 : namesOk P = true) (h2 : P.follows .mixedOrders = true) (h3 : SpecsOk P l) : GOk (GL P l as cs w0) :=
  GOk.mk0 h1 h2 fun f C h args hp K hC => lookC_ok rfl h3 h args hp K hC

theorem gokQ {P : Program} {l : List (FuncId × CSpec)} {as cs : Anns} {sp : Spls} {pl : List (FuncId × Nat)} (w0 : World) (h1 : namesOk P = true) (h2 : P.follows .mixedOrders = true) (h3 : SpecsOk P l) : GOk (GQ P l as cs sp pl w0) :=
  GOk.mk0 h1 h2 fun f C h args hp K hC => lookC_ok rfl h3 h args hp K hC

theorem gokS {P : Program} {l : List (FuncId × CSpec)} {as cs : Anns} {sp : Spls} (w0 : World) (h1 : namesOk P = true) (h2 : P.follows .mixedOrders = true) (h3 : SpecsOk P l) : GOk (GS P l as cs sp w0) :=
  GOk.mk0 h1 h2 fun f C h args hp K hC => lookC_ok rfl h3 h args hp K hC

def PureOkAt (P : Program) (w0 : World) (f : FuncId) (args : List SV) (v : SV) : Prop :=
  ∀ η w, Below w0.heap.size w0 w → FnRun P f (SV.dens η args).toArray w fun x w' => x = v.den η ∧ Below w.heap.size w w'
theorem PureOkAt.of_tie {P : Program} {w0 : World} {f : FuncId} {args args' : List SV} {v : SV} (G : World → Glob) (hG : ∀ w, GOk (G w)) (hP : ∀ w, (G w).P = P) (hw : ∀ w, (G w).w0 = w)
    (ha : eqVs args args') (n : Nat) (VC : World → Prop) (tie : ∀ w, VC w = (recN (G w) n).call f args' [] (fun u _ => eqV u v)) (h : ∀ w, Below w0.heap.size w0 w → VC w) : PureOkAt P w0 f args v := by
  intro η w hb
  obtain ⟨u, hp', hK, hc⟩ := call_sound (hG w) n (by rw [← tie w]; exact h w hb)
  have h0 : HR (G w).w0 (fun i => i) [] w := by rw [hw w]; exact HR.start w
  have := hc (fun i => i) w h0
  rw [hP w, ← eqVs_den ha η (fun i => i)] at this
  refine this.mono ?_
  rintro x w' ⟨η', rfl, h1, _⟩
  refine ⟨eqV_den hK _ _, ?_⟩
  have := h1.base
  rwa [hw w] at this
theorem PureOkAt.call {G : Glob} {f : FuncId} {args : List SV} {v : SV} (h : PureOkAt G.P G.w0 f args v) (hp : Hp) : CallOk G f args hp v hp := by
  intro η w hw
  refine (h η w hw.base).mono ?_
  rintro x w' ⟨rfl, hb⟩
  obtain ⟨m1, m2⟩ := move_grow hw hb
  exact ⟨η, rfl, m1, m2⟩
abbrev WSpec := World → CSpec
def SpecOkW (P : Program) (f : FuncId) (s : WSpec) : Prop := ∀ w0 args k, s w0 args k → ∃ v, k v ∧ PureOkAt P w0 f args v
def SpecsOkW (P : Program) : List (FuncId × WSpec) → Prop
  | [] => True
  | (g, s) :: r => SpecOkW P g s ∧ SpecsOkW P r
def lookW (w0 : World) : List (FuncId × WSpec) → FuncId → Option Con
  | [], _ => none
  | (g, s) :: r, f => match Nat.beq f g with | true => some (pcon (s w0)) | false => lookW w0 r f
def lookCW (l : List (FuncId × CSpec)) (lw : List (FuncId × WSpec)) (w0 : World) (f : FuncId) : Option Con := match lookC l f with | some C => some C | none => lookW w0 lw f
theorem lookW_ok {P : Program} {G : Glob} (hP : G.P = P) : ∀ {l : List (FuncId × WSpec)}, SpecsOkW P l → ∀ {f : FuncId} {C : Con}, lookW G.w0 l f = some C → ∀ args hp K, C args hp K → ∃ v hp', K v hp' ∧ CallOk G f args hp v hp'
  | [], _, f, C, h, _, _, _, _ => by simp [lookW] at h
  | (g, s) :: r, hs, f, C, h, args, hp, K, hC => by
    simp only [lookW] at h
    split at h
    · rename_i hfg
      have hfg := Nat.eq_of_beq_eq_true hfg
      subst hfg
      injection h with h
      subst h
      obtain ⟨v, hv, hp'⟩ := hs.1 G.w0 args _ hC
      subst hP
      exact ⟨v, hp, hv, hp'.call hp⟩
    · exact lookW_ok hP hs.2 h args hp K hC
def GW (P : Program) (l : List (FuncId × CSpec)) (lw : List (FuncId × WSpec)) (as cs : Anns) (sp : Spls) (pl : List (FuncId × Nat)) (w0 : World) : Glob := { P := P, w0 := w0, orc := lookCW l lw w0, ann := lookA as, cut := lookA cs, spl := lookS sp, peel := lookP pl }
theorem gokW {P : Program} {l : List (FuncId × CSpec)} {lw : List (FuncId × WSpec)} {as cs : Anns} {sp : Spls} {pl : List (FuncId × Nat)} (w0 : World) (h1 : namesOk P = true) (h2 : P.follows .mixedOrders = true) (h3 : SpecsOk P l) (h4 : SpecsOkW P lw) : GOk (GW P l lw as cs sp pl w0) :=
  GOk.mk0 h1 h2 fun f C h args hp K hC => by
    have h : lookCW l lw w0 f = some C := h
    unfold lookCW at h
    split at h
    · rename_i C' hl
      injection h with h
      subst h
      exact lookC_ok (G := GW P l lw as cs sp pl w0) rfl h3 hl args hp K hC
    · exact lookW_ok (G := GW P l lw as cs sp pl w0) rfl h4 h args hp K hC

def memOk (w : World) : List SV → Prop
  | [] => True
  | v :: r => (match v with
    | .bsl a n c fs => (0 ≤ n ∧ n ≤ (c : Int) ∧ ∀ i : Int, 0 ≤ i → i < n → BaseAt w a fs i) ∧ memOk w r
    | _ => memOk w r)
def eqB : SV → SV → Prop
  | .bsl _ n _ fs, u => ∃ a c, u = .bsl a n c fs
  | v, u => u = v
def eqBL : List SV → List SV → Prop
  | [], l => l = []
  | v :: r, l => ∃ u s, l = u :: s ∧ eqB v u ∧ eqBL r s
theorem eqBL_b {a : Addr} {n : Int} {c : Nat} {fs : List FC} {r l : List SV} (h : eqBL (.bsl a n c fs :: r) l) : ∃ a' c' r', l = .bsl a' n c' fs :: r' ∧ eqBL r r' := by
  obtain ⟨u, s, rfl, ⟨a', c', rfl⟩, h⟩ := h
  exact ⟨a', c', s, rfl, h⟩
theorem eqBL_i {k : IntKind} {x : SI} {r l : List SV} (h : eqBL (.int k x :: r) l) : ∃ r', l = .int k x :: r' ∧ eqBL r r' := by
  obtain ⟨u, s, rfl, rfl, h⟩ := h; exact ⟨s, rfl, h⟩
theorem eqBL_t {x : SB} {r l : List SV} (h : eqBL (.bool x :: r) l) : ∃ r', l = .bool x :: r' ∧ eqBL r r' := by
  obtain ⟨u, s, rfl, rfl, h⟩ := h; exact ⟨s, rfl, h⟩
theorem eqBL_s {x : SS} {r l : List SV} (h : eqBL (.str x :: r) l) : ∃ r', l = .str x :: r' ∧ eqBL r r' := by
  obtain ⟨u, s, rfl, rfl, h⟩ := h; exact ⟨s, rfl, h⟩
theorem eqBL_a {x : List SV} {r l : List SV} (h : eqBL (.agg x :: r) l) : ∃ r', l = .agg x :: r' ∧ eqBL r r' := by
  obtain ⟨u, s, rfl, rfl, h⟩ := h; exact ⟨s, rfl, h⟩
theorem eqBL_v {x : Value} {r l : List SV} (h : eqBL (.val x :: r) l) : ∃ r', l = .val x :: r' ∧ eqBL r r' := by
  obtain ⟨u, s, rfl, rfl, h⟩ := h; exact ⟨s, rfl, h⟩
theorem eqBL_n {l : List SV} (h : eqBL [] l) : l = [] := h
def SpecOkF (P : Program) (f : FuncId) (s : CSpec) : Prop := ∀ args k, s args k → ∃ v, k v ∧ ∀ w0 args', eqBL args args' → memOk w0 args' → PureOkAt P w0 f args' v
def SpecsOkF (P : Program) : List (FuncId × CSpec) → Prop
  | [] => True
  | (g, s) :: r => SpecOkF P g s ∧ SpecsOkF P r
theorem base_at {w0 w : World} (h : Below w0.heap.size w0 w) {a : Addr} {fs : List FC} {i : Int} (hb : BaseAt w0 a fs i) : BaseAt w a fs i := by
  intro j fc hj
  have hr : HRel w0 (fun i => i) (fun _ => none) w := ⟨h, fun _ _ e => (by cases e), fun _ _ e => (by cases e), fun _ _ _ _ e _ _ => (by cases e)⟩
  exact base_cell hr (hb j fc hj)
theorem memOk_below {w0 w : World} (h : Below w0.heap.size w0 w) : ∀ {l : List SV}, memOk w0 l → memOk w l
  | [], _ => trivial
  | v :: r, hm => by
    unfold memOk at hm ⊢
    split at hm
    · obtain ⟨⟨h0, h1, h2⟩, hm⟩ := hm
      exact ⟨⟨h0, h1, fun i a b => base_at h (h2 i a b)⟩, memOk_below h hm⟩
    · exact memOk_below h hm
theorem PureOkAt.of_tieF {P : Program} {w0 : World} {f : FuncId} {args args' : List SV} {v : SV} (G : World → Glob) (hG : ∀ w, GOk (G w)) (hP : ∀ w, (G w).P = P) (hw : ∀ w, (G w).w0 = w)
    (ha : eqVs args args') (n : Nat) (VC : World → Prop) (tie : ∀ w, VC w = (recN (G w) n).call f args' [] (fun u _ => eqV u v)) (hm : memOk w0 args) (h : ∀ w, memOk w args → VC w) : PureOkAt P w0 f args v :=
  PureOkAt.of_tie G hG hP hw ha n VC tie fun w hb => h w (memOk_below hb hm)

def withNil (s n : CSpec) : CSpec := fun args k => match args with
  | .val v :: r => n (.val v :: r) k
  | l => s l k
theorem withNil_ok {P : Program} {f : FuncId} {s n : CSpec} (hs : SpecOkF P f s) (hn : SpecOkF P f n) : SpecOkF P f (withNil s n) := by
  intro args k h
  unfold withNil at h
  split at h
  · exact hn _ _ h
  · exact hs _ _ h

def asB (η : Nat → Nat) (hp : Hp) : SV → SV
  | .fsl b n c => (match hget hp b with | some (.fblk _ fs _ _) => .bsl ⟨η b, 0, none⟩ n (c.den η) fs | _ => .fsl b n c)
  | .osl b o z n c => (match hget hp b with | some (.fblk _ fs _ _) => .bsl ⟨η b, o.toNat * z, none⟩ n c.toNat (shFCs o fs) | _ => .osl b o z n c)
  | v => v
def asB0 (hp : Hp) : SV → SV
  | .fsl b n c => (match hget hp b with | some (.fblk _ fs _ _) => .bsl ⟨0, 0, none⟩ n 0 fs | _ => .any)
  | .osl b o z n c => (match hget hp b with | some (.fblk _ fs _ _) => .bsl ⟨0, 0, none⟩ n 0 (shFCs o fs) | _ => .any)
  | v => v
def asBs (hp : Hp) : List SV → List SV
  | [] => []
  | v :: r => asB0 hp v :: asBs hp r
def memB (w0 : World) (a : Addr) (n : Int) (c : Nat) (fs : List FC) : Prop := (0 ≤ n ∧ n ≤ (c : Int)) ∧ ∀ i : Int, 0 ≤ i → i < n → BaseAt w0 a fs i
def memC (w0 : World) (hp : Hp) : List SV → Prop → Prop
  | [], X => X
  | v :: r, X => (match v with
    | .bsl a n c fs => memB w0 a n c fs ∧ memC w0 hp r X
    | .fsl b n c => (match hget hp b with
      | some (.fblk n' fs _ tl) => (match c with
        | .ltr k => (match tl with
          | .ltr k' z => (match Nat.beq k k', Nat.beq z fs.length, Nat.beq z 0 with | true, true, false => (0 ≤ n ∧ n ≤ n') ∧ memC w0 hp r X | _, _, _ => False)
          | .full => False)
        | .num m => (0 ≤ n ∧ n ≤ n' ∧ n ≤ m) ∧ memC w0 hp r X
        | .lit m => (0 ≤ n ∧ n ≤ n' ∧ n ≤ (m : Int)) ∧ memC w0 hp r X)
      | _ => False)
    | .osl b o z n c => (match hget hp b with
      | some (.fblk n' fs _ _) => (match Nat.beq z fs.length with | true => (0 ≤ o ∧ 0 ≤ n ∧ o + n ≤ n' ∧ n ≤ c) ∧ memC w0 hp r X | false => False)
      | _ => False)
    | _ => memC w0 hp r X)
def fcon (w0 : World) (s : CSpec) : Con := fun args hp K => memC w0 hp args (s (asBs hp args) fun v => K v hp)
theorem fsl_at {w0 : World} {η : Nat → Nat} {hp : Hp} {w : World} (hr : HR w0 η hp w) {b : Nat} {n' : Int} {fs : List FC} {ty : TypeId} {tl : ST} (hb : hget hp b = some (.fblk n' fs ty tl)) {n : Int} (hn : n ≤ n') :
    ∀ i : Int, 0 ≤ i → i < n → BaseAt w ⟨η b, 0, none⟩ fs i := by
  intro i h0 h1 j fc hj
  obtain ⟨c', fz, g0, g1, g2, hz, hheap, hcell⟩ := fblk_at hr hb
  rw [add_ptr, hcell, Nat.zero_add, g2 i.toNat j fc (by omega) hj, Int.toNat_of_nonneg h0]
theorem osl_at {w0 : World} {η : Nat → Nat} {hp : Hp} {w : World} (hr : HR w0 η hp w) {b : Nat} {n' : Int} {fs : List FC} {ty : TypeId} {tl : ST} (hb : hget hp b = some (.fblk n' fs ty tl)) {o n : Int} (ho : 0 ≤ o) (hn : o + n ≤ n') :
    ∀ i : Int, 0 ≤ i → i < n → BaseAt w ⟨η b, o.toNat * fs.length, none⟩ (shFCs o fs) i := by
  intro i h0 h1 j fc hj
  obtain ⟨c', fz, g0, g1, g2, hz, hheap, hcell⟩ := fblk_at hr hb
  rw [shFCs_get] at hj
  simp only [Option.map_eq_some_iff] at hj
  obtain ⟨gc, hj, rfl⟩ := hj
  rw [add_ptr, hcell, shFC_val, shFCs_len]
  have := g2 (o.toNat + i.toNat) j gc (by omega) hj
  rw [Nat.add_mul] at this
  rw [show o.toNat * fs.length + (i.toNat * fs.length + j) = o.toNat * fs.length + i.toNat * fs.length + j by omega, this]
  congr 2; omega
theorem memC_sound {w0 : World} {hp : Hp} : ∀ {args : List SV} {X : Prop}, memC w0 hp args X → X ∧ ∀ η w, HR w0 η hp w → memOk w (args.map (asB η hp)) ∧ SV.dens η (args.map (asB η hp)) = SV.dens η args ∧ eqBL (asBs hp args) (args.map (asB η hp))
  | [], X, h => ⟨h, fun η w hr => ⟨trivial, rfl, rfl⟩⟩
  | v :: r, X, h => by
    unfold memC at h
    split at h
    · rename_i a n c fs
      obtain ⟨⟨⟨h0, h1⟩, h2⟩, h⟩ := h
      obtain ⟨hX, hr⟩ := memC_sound h
      refine ⟨hX, fun η w hw => ?_⟩
      obtain ⟨a1, a2, a3⟩ := hr η w hw
      refine ⟨⟨⟨h0, h1, fun i p q => base_at hw.base (h2 i p q)⟩, a1⟩, by simp only [List.map_cons, SV.dens, a2]; rfl, ⟨_, _, rfl, ⟨_, _, rfl⟩, a3⟩⟩
    · rename_i b n c
      split at h
      · rename_i n' fs ty tl hb
        have fin : ∀ (hle : 0 ≤ n ∧ n ≤ n') (hc : ∀ η w, HR w0 η hp w → n ≤ ((c.den η : Nat) : Int)), memC w0 hp r X → X ∧ ∀ η w, HR w0 η hp w → memOk w ((SV.fsl b n c :: r).map (asB η hp)) ∧ SV.dens η ((SV.fsl b n c :: r).map (asB η hp)) = SV.dens η (SV.fsl b n c :: r) ∧ eqBL (asBs hp (SV.fsl b n c :: r)) ((SV.fsl b n c :: r).map (asB η hp)) := by
          intro hle hc h
          obtain ⟨hX, hr⟩ := memC_sound h
          refine ⟨hX, fun η w hw => ?_⟩
          obtain ⟨a1, a2, a3⟩ := hr η w hw
          have e : asB η hp (SV.fsl b n c) = .bsl ⟨η b, 0, none⟩ n (c.den η) fs := by simp only [asB, hb]
          have e0 : asB0 hp (SV.fsl b n c) = .bsl ⟨0, 0, none⟩ n 0 fs := by simp only [asB0, hb]
          rw [List.map_cons, e]
          refine ⟨⟨⟨hle.1, hc η w hw, fsl_at hw hb hle.2⟩, a1⟩, by simp only [SV.dens, a2]; rfl, ⟨_, _, rfl, ?_, a3⟩⟩
          rw [e0]; exact ⟨_, _, rfl⟩
        split at h
        · rename_i k
          split at h
          · rename_i k' z
            split at h
            · rename_i e1 e2 e3
              have e1 := Nat.eq_of_beq_eq_true e1
              have e2 := Nat.eq_of_beq_eq_true e2
              have e3 := Nat.ne_of_beq_eq_false e3
              subst e1; subst e2
              refine fin h.1 (fun η w hw => ?_) h.2
              obtain ⟨c', fz, g0, ⟨g1, g1'⟩, g2, hz, hheap, hcell⟩ := fblk_at hw hb
              rw [g1] at g1'
              have := Nat.le_of_mul_le_mul_right g1' (by omega)
              simp only [SN.den]
              have := h.1
              omega
            · cases h
          · cases h
        · exact fin ⟨h.1.1, h.1.2.1⟩ (fun η w hw => by simp only [SN.den]; have := h.1; omega) h.2
        · exact fin ⟨h.1.1, h.1.2.1⟩ (fun η w hw => by simp only [SN.den]; have := h.1; omega) h.2
      · cases h
    · rename_i b o z n c
      split at h
      · rename_i n' fs ty tl hb
        split at h
        · rename_i hz
          have hz := Nat.eq_of_beq_eq_true hz
          subst hz
          obtain ⟨⟨h0, h1, h2, h3⟩, h⟩ := h
          obtain ⟨hX, hr⟩ := memC_sound h
          refine ⟨hX, fun η w hw => ?_⟩
          obtain ⟨a1, a2, a3⟩ := hr η w hw
          have e : asB η hp (SV.osl b o fs.length n c) = .bsl ⟨η b, o.toNat * fs.length, none⟩ n c.toNat (shFCs o fs) := by simp only [asB, hb]
          have e0 : asB0 hp (SV.osl b o fs.length n c) = .bsl ⟨0, 0, none⟩ n 0 (shFCs o fs) := by simp only [asB0, hb]
          rw [List.map_cons, e]
          refine ⟨⟨⟨h1, by omega, osl_at hw hb h0 h2⟩, a1⟩, by simp only [SV.dens, a2]; rfl, ⟨_, _, rfl, ?_, a3⟩⟩
          rw [e0]; exact ⟨_, _, rfl⟩
        · cases h
      · cases h
    · rename_i n1 n2 n3
      obtain ⟨hX, hr⟩ := memC_sound h
      refine ⟨hX, fun η w hw => ?_⟩
      obtain ⟨a1, a2, a3⟩ := hr η w hw
      have e : asB η hp v = v := by
        unfold asB; split
        · exact absurd rfl (n2 _ _ _)
        · exact absurd rfl (n3 _ _ _ _ _)
        · rfl
      have e0 : asB0 hp v = v := by
        unfold asB0; split
        · exact absurd rfl (n2 _ _ _)
        · exact absurd rfl (n3 _ _ _ _ _)
        · rfl
      rw [List.map_cons, e]
      refine ⟨?_, by simp only [SV.dens, a2], ⟨_, _, rfl, ?_, a3⟩⟩
      · unfold memOk; split
        · exact absurd rfl (n1 _ _ _ _)
        · exact a1
      · rw [e0]; unfold eqB; split
        · exact absurd rfl (n1 _ _ _ _)
        · rfl
def lookF (w0 : World) : List (FuncId × CSpec) → FuncId → Option Con
  | [], _ => none
  | (g, s) :: r, f => match Nat.beq f g with | true => some (fcon w0 s) | false => lookF w0 r f
def lookCWF (l : List (FuncId × CSpec)) (lw : List (FuncId × WSpec)) (lf : List (FuncId × CSpec)) (w0 : World) (f : FuncId) : Option Con := match lookCW l lw w0 f with | some C => some C | none => lookF w0 lf f
theorem Below.self (w : World) : Below w.heap.size w w := ⟨rfl, rfl, rfl, Nat.le_refl _, fun _ _ => rfl⟩
theorem lookF_ok {P : Program} {G : Glob} (hP : G.P = P) : ∀ {l : List (FuncId × CSpec)}, SpecsOkF P l → ∀ {f : FuncId} {C : Con}, lookF G.w0 l f = some C → ∀ args hp K, C args hp K → ∃ v hp', K v hp' ∧ CallOk G f args hp v hp'
  | [], _, f, C, h, _, _, _, _ => by simp [lookF] at h
  | (g, s) :: r, hs, f, C, h, args, hp, K, hC => by
    simp only [lookF] at h
    split at h
    · rename_i hfg
      have hfg := Nat.eq_of_beq_eq_true hfg
      subst hfg
      injection h with h
      subst h
      obtain ⟨hX, hmem⟩ := memC_sound hC
      obtain ⟨v, hv, hv2⟩ := hs.1 _ _ hX
      refine ⟨v, hp, hv, fun η w hw => ?_⟩
      obtain ⟨a1, a2, a3⟩ := hmem η w hw
      have := hv2 w _ a3 a1 η w (Below.self w)
      rw [a2] at this
      subst hP
      refine this.mono ?_
      rintro x w' ⟨rfl, hb⟩
      obtain ⟨m1, m2⟩ := move_grow hw hb
      exact ⟨η, rfl, m1, m2⟩
    · exact lookF_ok hP hs.2 h args hp K hC
def lookX : List (FuncId × Nat × Bool) → FuncId → Nat → Option Bool
  | [], _, _ => none
  | (g, t, v) :: r, f, i => match Nat.beq f g, Nat.beq i t with | true, true => some v | _, _ => lookX r f i
abbrev Fixs := List (FuncId × Nat × Bool)
def GX (P : Program) (l : List (FuncId × CSpec)) (lw : List (FuncId × WSpec)) (lf : List (FuncId × CSpec)) (as cs : Anns) (sp : Spls) (pl : List (FuncId × Nat)) (fx : Fixs) (w0 : World) : Glob := { P := P, w0 := w0, orc := lookCWF l lw lf w0, ann := lookA as, cut := lookA cs, spl := lookS sp, peel := lookP pl, fix := lookX fx }
abbrev GF (P : Program) (l : List (FuncId × CSpec)) (lw : List (FuncId × WSpec)) (lf : List (FuncId × CSpec)) (as cs : Anns) (sp : Spls) (pl : List (FuncId × Nat)) (w0 : World) : Glob := GX P l lw lf as cs sp pl [] w0
theorem gokX {P : Program} {l : List (FuncId × CSpec)} {lw : List (FuncId × WSpec)} {lf : List (FuncId × CSpec)} {as cs : Anns} {sp : Spls} {pl : List (FuncId × Nat)} {fx : Fixs} (w0 : World) (h1 : namesOk P = true) (h2 : P.follows .mixedOrders = true) (h3 : SpecsOk P l) (h4 : SpecsOkW P lw) (h5 : SpecsOkF P lf) : GOk (GX P l lw lf as cs sp pl fx w0) :=
  GOk.mk0 h1 h2 fun f C h args hp K hC => by
    have h : lookCWF l lw lf w0 f = some C := h
    unfold lookCWF at h
    split at h
    · rename_i C' hl
      injection h with h
      subst h
      unfold lookCW at hl
      split at hl
      · rename_i C'' hl2
        injection hl with hl
        subst hl
        exact lookC_ok (G := GX P l lw lf as cs sp pl fx w0) rfl h3 hl2 args hp K hC
      · exact lookW_ok (G := GX P l lw lf as cs sp pl fx w0) rfl h4 hl args hp K hC
    · exact lookF_ok (G := GX P l lw lf as cs sp pl fx w0) rfl h5 h args hp K hC
theorem gokF {P : Program} {l : List (FuncId × CSpec)} {lw : List (FuncId × WSpec)} {lf : List (FuncId × CSpec)} {as cs : Anns} {sp : Spls} {pl : List (FuncId × Nat)} (w0 : World) (h1 : namesOk P = true) (h2 : P.follows .mixedOrders = true) (h3 : SpecsOk P l) (h4 : SpecsOkW P lw) (h5 : SpecsOkF P lf) : GOk (GF P l lw lf as cs sp pl w0) := gokX w0 h1 h2 h3 h4 h5

end Go.Sx
namespace Go.Sx
open Go

theorem w_u64 (n : Int) : IntKind.u64.wrap n = n % 18446744073709551616 := by simp [IntKind.wrap, IntKind.signed, IntKind.bits]
theorem w_u32 (n : Int) : IntKind.u32.wrap n = n % 4294967296 := by simp [IntKind.wrap, IntKind.signed, IntKind.bits]
theorem w_u16 (n : Int) : IntKind.u16.wrap n = n % 65536 := by simp [IntKind.wrap, IntKind.signed, IntKind.bits]
theorem w_u8 (n : Int) : IntKind.u8.wrap n = n % 256 := by simp [IntKind.wrap, IntKind.signed, IntKind.bits]
theorem w_i64 (n : Int) : IntKind.i64.wrap n = (n + 9223372036854775808) % 18446744073709551616 - 9223372036854775808 := by
  have e : IntKind.i64.wrap n = if n % 18446744073709551616 ≥ 9223372036854775808 then n % 18446744073709551616 - 18446744073709551616 else n % 18446744073709551616 := by
    simp [IntKind.wrap, IntKind.signed, IntKind.bits]
  rw [e]; split <;> omega
theorem w_i32 (n : Int) : IntKind.i32.wrap n = (n + 2147483648) % 4294967296 - 2147483648 := by
  have e : IntKind.i32.wrap n = if n % 4294967296 ≥ 2147483648 then n % 4294967296 - 4294967296 else n % 4294967296 := by
    simp [IntKind.wrap, IntKind.signed, IntKind.bits]
  rw [e]; split <;> omega
theorem i64_id {n : Int} (h : -9223372036854775808 ≤ n) (h' : n ≤ 9223372036854775807) : IntKind.i64.wrap n = n := by rw [w_i64]; omega
theorem u64_id {n : Int} (h : 0 ≤ n) (h' : n ≤ 18446744073709551615) : IntKind.u64.wrap n = n := by rw [w_u64]; omega

theorem wf_u64 {x : Int} (h : (Lit.int .u64 x).wf = true) : 0 ≤ x ∧ x ≤ 18446744073709551615 := by
  simpa [Lit.wf, IntKind.min, IntKind.max, IntKind.signed, IntKind.bits] using h
theorem wf_u32 {x : Int} (h : (Lit.int .u32 x).wf = true) : 0 ≤ x ∧ x ≤ 4294967295 := by
  simpa [Lit.wf, IntKind.min, IntKind.max, IntKind.signed, IntKind.bits] using h
theorem wf_u16 {x : Int} (h : (Lit.int .u16 x).wf = true) : 0 ≤ x ∧ x ≤ 65535 := by
  simpa [Lit.wf, IntKind.min, IntKind.max, IntKind.signed, IntKind.bits] using h
theorem wf_u8 {x : Int} (h : (Lit.int .u8 x).wf = true) : 0 ≤ x ∧ x ≤ 255 := by
  simpa [Lit.wf, IntKind.min, IntKind.max, IntKind.signed, IntKind.bits] using h
theorem wf_i64 {x : Int} (h : (Lit.int .i64 x).wf = true) : -9223372036854775808 ≤ x ∧ x ≤ 9223372036854775807 := by
  simpa [Lit.wf, IntKind.min, IntKind.max, IntKind.signed, IntKind.bits] using h
theorem wf_i32 {x : Int} (h : (Lit.int .i32 x).wf = true) : -2147483648 ≤ x ∧ x ≤ 2147483647 := by
  simpa [Lit.wf, IntKind.min, IntKind.max, IntKind.signed, IntKind.bits] using h

abbrev U64 (x : Int) : Prop := 0 ≤ x ∧ x ≤ 18446744073709551615
abbrev U32 (x : Int) : Prop := 0 ≤ x ∧ x ≤ 4294967295
abbrev U16 (x : Int) : Prop := 0 ≤ x ∧ x ≤ 65535
abbrev U8 (x : Int) : Prop := 0 ≤ x ∧ x ≤ 255
abbrev I64 (x : Int) : Prop := -9223372036854775808 ≤ x ∧ x ≤ 9223372036854775807
abbrev I32 (x : Int) : Prop := -2147483648 ≤ x ∧ x ≤ 2147483647

def val4 (a b c d : Int) : Int := a + b * 18446744073709551616 + c * 340282366920938463463374607431768211456 + d * 6277101735386680763835789423207666416102355444464034512896
def limb (x : Int) (i : Nat) : Int := x / 2 ^ (64 * i) % 18446744073709551616

theorem i64_u64 (x : Int) : IntKind.i64.wrap (IntKind.u64.wrap x) = IntKind.i64.wrap x := by rw [w_u64, w_i64, w_i64]; omega
theorem u64_i64 (x : Int) : IntKind.u64.wrap (IntKind.i64.wrap x) = IntKind.u64.wrap x := by rw [w_i64, w_u64, w_u64]; omega
theorem i64_sub_u64 (x y : Int) : IntKind.i64.wrap (IntKind.u64.wrap x - IntKind.u64.wrap y) = IntKind.i64.wrap (x - y) := by rw [w_u64, w_u64, w_i64, w_i64]; omega
theorem i64_lo (x : Int) : -9223372036854775808 ≤ IntKind.i64.wrap x := by rw [w_i64]; omega
theorem i64_hi (x : Int) : IntKind.i64.wrap x ≤ 9223372036854775807 := by rw [w_i64]; omega
theorem u64_lo (x : Int) : 0 ≤ IntKind.u64.wrap x := by rw [w_u64]; omega
theorem u64_hi (x : Int) : IntKind.u64.wrap x ≤ 18446744073709551615 := by rw [w_u64]; omega
theorem i64_in (x : Int) : I64 (IntKind.i64.wrap x) := ⟨i64_lo x, i64_hi x⟩
theorem u64_in (x : Int) : U64 (IntKind.u64.wrap x) := ⟨u64_lo x, u64_hi x⟩

theorem tf {v : Bool} {A B : Prop} (a : v = true → A) (b : v = false → B) : (v = true → A) ∧ (v = false → B) := ⟨a, b⟩
theorem ft {v : Bool} {A B : Prop} (b : v = false → B) (a : v = true → A) : (v = false → B) ∧ (v = true → A) := ⟨b, a⟩
theorem br {X A B : Prop} [Decidable X] (h1 : X → A) (h2 : ¬ X → B) : ∀ v : Bool, v = decide X → (v = true → A) ∧ (v = false → B) := by
  rintro v rfl; exact ⟨fun h => h1 (by simpa using h), fun h => h2 (by simpa using h)⟩
theorem rb {X A B : Prop} [Decidable X] (h2 : ¬ X → B) (h1 : X → A) : ∀ v : Bool, v = decide X → (v = false → B) ∧ (v = true → A) := by
  rintro v rfl; exact ⟨fun h => h2 (by simpa using h), fun h => h1 (by simpa using h)⟩
theorem brE {a b : Int} {A B : Prop} (h1 : a = b → A) (h2 : a ≠ b → B) : ∀ v : Bool, v = (a == b) → (v = true → A) ∧ (v = false → B) := by
  rintro v rfl; exact ⟨fun h => h1 (by simpa using h), fun h => h2 (by simpa using h)⟩
theorem rbE {a b : Int} {A B : Prop} (h2 : a ≠ b → B) (h1 : a = b → A) : ∀ v : Bool, v = (a == b) → (v = false → B) ∧ (v = true → A) := by
  rintro v rfl; exact ⟨fun h => h2 (by simpa using h), fun h => h1 (by simpa using h)⟩
theorem brN {a b : Int} {A B : Prop} (h1 : a ≠ b → A) (h2 : a = b → B) : ∀ v : Bool, v = (a != b) → (v = true → A) ∧ (v = false → B) := by
  rintro v rfl; exact ⟨fun h => h1 (by simpa using h), fun h => h2 (by simpa using h)⟩
theorem rbN {a b : Int} {A B : Prop} (h2 : a = b → B) (h1 : a ≠ b → A) : ∀ v : Bool, v = (a != b) → (v = false → B) ∧ (v = true → A) := by
  rintro v rfl; exact ⟨fun h => h2 (by simpa using h), fun h => h1 (by simpa using h)⟩

theorem brn {X A B : Prop} [Decidable X] (h1 : ¬ X → A) (h2 : X → B) : ∀ v : Bool, v = decide X → ∀ u : Bool, u = (!v) → (u = true → A) ∧ (u = false → B) := by
  rintro v rfl u rfl; exact ⟨fun h => h1 (by simpa using h), fun h => h2 (by simpa using h)⟩
theorem rbn {X A B : Prop} [Decidable X] (h2 : X → B) (h1 : ¬ X → A) : ∀ v : Bool, v = decide X → ∀ u : Bool, u = (!v) → (u = false → B) ∧ (u = true → A) := by
  rintro v rfl u rfl; exact ⟨fun h => h2 (by simpa using h), fun h => h1 (by simpa using h)⟩
theorem brb {b : Bool} {A B : Prop} (h1 : b = true → A) (h2 : b = false → B) : ∀ v : Bool, v = b → (v = true → A) ∧ (v = false → B) := by
  rintro v rfl; exact ⟨h1, h2⟩
theorem rbb {b : Bool} {A B : Prop} (h2 : b = false → B) (h1 : b = true → A) : ∀ v : Bool, v = b → (v = false → B) ∧ (v = true → A) := by
  rintro v rfl; exact ⟨h2, h1⟩
theorem brbn {b : Bool} {A B : Prop} (h1 : b = false → A) (h2 : b = true → B) : ∀ v : Bool, v = b → ∀ u : Bool, u = (!v) → (u = true → A) ∧ (u = false → B) := by
  rintro v rfl u rfl; exact ⟨fun h => h1 (by simpa using h), fun h => h2 (by simpa using h)⟩
theorem rbbn {b : Bool} {A B : Prop} (h2 : b = true → B) (h1 : b = false → A) : ∀ v : Bool, v = b → ∀ u : Bool, u = (!v) → (u = false → B) ∧ (u = true → A) := by
  rintro v rfl u rfl; exact ⟨fun h => h2 (by simpa using h), fun h => h1 (by simpa using h)⟩

theorem tdiv_nonneg {a : Int} (h : 0 ≤ a) (b : Int) : a.tdiv b = a / b := Int.tdiv_eq_ediv_of_nonneg h
theorem tmod_nonneg {a : Int} (h : 0 ≤ a) (b : Int) : a.tmod b = a % b := Int.tmod_eq_emod_of_nonneg h

theorem shl_eq (k : IntKind) (x : Int) (n : Nat) (h : n ≤ k.bits) : shlI k x (n : Int) = k.wrap (x * 2 ^ n) := by
  simp [shlI, Nat.min_eq_left h]
theorem shr_eq (k : IntKind) (x : Int) (n : Nat) (h : n ≤ k.bits) : shrI k x (n : Int) = x / 2 ^ n := by
  simp only [shrI, Int.toNat_natCast, Nat.min_eq_left h]
  rw [Int.fdiv_eq_ediv_of_nonneg]
  exact Int.le_of_lt (Int.pow_pos (by omega))

def natOf (k : IntKind) (x : Int) : Nat := (x % (2 ^ k.bits : Nat)).toNat
theorem natOf_id {k : IntKind} {x : Int} (h : 0 ≤ x) (h' : x < (2 ^ k.bits : Nat)) : natOf k x = x.toNat := by
  unfold natOf; rw [Int.emod_eq_of_lt h h']
theorem bit_and (k : IntKind) (x y : Int) : bitI .and k x y = k.wrap ((natOf k x &&& natOf k y : Nat) : Int) := by
  simp only [bitI, BitVec.toNat_and, BitVec.toNat_ofInt, natOf]
theorem bit_or (k : IntKind) (x y : Int) : bitI .or k x y = k.wrap ((natOf k x ||| natOf k y : Nat) : Int) := by
  simp only [bitI, BitVec.toNat_or, BitVec.toNat_ofInt, natOf]
theorem bit_xor (k : IntKind) (x y : Int) : bitI .xor k x y = k.wrap ((natOf k x ^^^ natOf k y : Nat) : Int) := by
  simp only [bitI, BitVec.toNat_xor, BitVec.toNat_ofInt, natOf]

theorem and_mask {x n : Nat} : x &&& (2 ^ n - 1) = x % 2 ^ n := Nat.and_two_pow_sub_one_eq_mod x n
theorem and1_i64 (x : Int) : bitI .and .i64 x 1 = x % 2 := by
  rw [bit_and]
  have e1 : natOf .i64 1 = 1 := by decide +kernel
  rw [e1, Nat.and_one_is_mod, w_i64]
  unfold natOf
  simp only [IntKind.bits]
  omega
theorem or_parts_u64 {a b : Int} {n : Nat} (ha : 0 ≤ a) (hb : 0 ≤ b) (hb' : b < 2 ^ n) (h : a * 2 ^ n + b < 18446744073709551616) (h0 : a * 2 ^ n < 18446744073709551616) (h1 : b < 18446744073709551616) :
    bitI .or .u64 (a * 2 ^ n) b = a * 2 ^ n + b := by
  rw [bit_or, natOf_id (by exact Int.mul_nonneg ha (Int.le_of_lt (Int.pow_pos (by omega)))) (by simpa [IntKind.bits] using h0), natOf_id hb (by simpa [IntKind.bits] using h1)]
  obtain ⟨a, rfl⟩ := Int.eq_ofNat_of_zero_le ha
  obtain ⟨b, rfl⟩ := Int.eq_ofNat_of_zero_le hb
  have e : ((a : Int) * 2 ^ n).toNat = 2 ^ n * a := by
    have : ((a : Int) * 2 ^ n) = ((2 ^ n * a : Nat) : Int) := by push_cast; rw [Int.mul_comm]
    rw [this, Int.toNat_natCast]
  have hb2 : b < 2 ^ n := by exact_mod_cast hb'
  rw [e, Int.toNat_natCast, ← Nat.two_pow_add_eq_or_of_lt hb2 a, u64_id (by omega) ?_]
  · push_cast; rw [Int.mul_comm]
  · push_cast; rw [Int.mul_comm]; omega

theorem shrN (k : IntKind) (x : Int) (n : Nat) (m p : Int) (hm : m = n := by rfl) (hp : p = 2 ^ n := by rfl) (hn : n ≤ k.bits := by decide) : shrI k x m = x / p := by
  subst hm hp; exact shr_eq k x n hn
theorem shlN (k : IntKind) (x : Int) (n : Nat) (m p : Int) (hm : m = n := by rfl) (hp : p = 2 ^ n := by rfl) (hn : n ≤ k.bits := by decide) : shlI k x m = k.wrap (x * p) := by
  subst hm hp; exact shl_eq k x n hn
theorem and_low_u64 {x : Int} (hx : U64 x) (n : Nat) (m p : Int) (hm : m = 2 ^ n - 1 := by rfl) (hp : p = 2 ^ n := by rfl) (hn : n ≤ 64 := by decide) : bitI .and .u64 x m = x % p := by
  subst hm hp
  have h2 : (0 : Int) < 2 ^ n := Int.pow_pos (by omega)
  have h3 : (2 : Int) ^ n ≤ 2 ^ 64 := by
    have : (2 : Nat) ^ n ≤ 2 ^ 64 := Nat.pow_le_pow_right (by omega) hn
    exact_mod_cast this
  rw [show (2 : Int) ^ 64 = 18446744073709551616 from rfl] at h3
  unfold U64 at hx
  rw [bit_and, natOf_id (k := .u64) hx.1 (by simp only [IntKind.bits]; omega), natOf_id (k := .u64) (x := 2 ^ n - 1) (by omega) (by simp only [IntKind.bits]; omega)]
  have e : ((2 : Int) ^ n - 1).toNat = 2 ^ n - 1 := by
    have : ((2 ^ n - 1 : Nat) : Int) = 2 ^ n - 1 := by
      have := Nat.one_le_two_pow (n := n)
      push_cast [Int.ofNat_sub this]
      rfl
    rw [← this, Int.toNat_natCast]
  rw [e, Nat.and_two_pow_sub_one_eq_mod]
  obtain ⟨x, rfl⟩ := Int.eq_ofNat_of_zero_le hx.1
  rw [Int.toNat_natCast]
  have l : ((x % 2 ^ n : Nat) : Int) = (x : Int) % 2 ^ n := by push_cast; rfl
  rw [l, u64_id]
  · exact Int.emod_nonneg _ (by omega)
  · have := Int.emod_lt_of_pos (x : Int) h2; omega
theorem mul_in {a b m n : Int} (ha : 0 ≤ a) (ha' : a ≤ m) (hb : 0 ≤ b) (hb' : b ≤ n) : 0 ≤ a * b ∧ a * b ≤ m * n :=
  ⟨Int.mul_nonneg ha hb, Int.mul_le_mul ha' hb' hb (by omega)⟩

def lenF (x : Int) : Int := if x ≤ 0 then 0 else ((Nat.log2 x.toNat + 1 : Nat) : Int)
def tab8 : ByteArray := bytesL [0, 1, 2, 2, 3, 3, 3, 3, 4, 4, 4, 4, 4, 4, 4, 4, 5, 5, 5, 5, 5, 5, 5, 5, 5, 5, 5, 5, 5, 5, 5, 5, 6, 6, 6, 6, 6, 6, 6, 6, 6, 6, 6, 6, 6, 6, 6, 6, 6, 6, 6, 6, 6, 6, 6, 6, 6, 6, 6, 6, 6, 6, 6, 6, 7, 7, 7, 7, 7, 7, 7, 7, 7, 7, 7, 7, 7, 7, 7, 7, 7, 7, 7, 7, 7, 7, 7, 7, 7, 7, 7, 7, 7, 7, 7, 7, 7, 7, 7, 7, 7, 7, 7, 7, 7, 7, 7, 7, 7, 7, 7, 7, 7, 7, 7, 7, 7, 7, 7, 7, 7, 7, 7, 7, 7, 7, 7, 7, 8, 8, 8, 8, 8, 8, 8, 8, 8, 8, 8, 8, 8, 8, 8, 8, 8, 8, 8, 8, 8, 8, 8, 8, 8, 8, 8, 8, 8, 8, 8, 8, 8, 8, 8, 8, 8, 8, 8, 8, 8, 8, 8, 8, 8, 8, 8, 8, 8, 8, 8, 8, 8, 8, 8, 8, 8, 8, 8, 8, 8, 8, 8, 8, 8, 8, 8, 8, 8, 8, 8, 8, 8, 8, 8, 8, 8, 8, 8, 8, 8, 8, 8, 8, 8, 8, 8, 8, 8, 8, 8, 8, 8, 8, 8, 8, 8, 8, 8, 8, 8, 8, 8, 8, 8, 8, 8, 8, 8, 8, 8, 8, 8, 8, 8, 8, 8, 8, 8, 8, 8, 8, 8, 8, 8, 8, 8, 8]
theorem tab8_all : (List.range 256).all (fun i => byteAt tab8 (i : Int) == lenF (i : Int)) = true := by decide +kernel
theorem tab8_len {x : Int} (h0 : 0 ≤ x) (h1 : x < 256) : byteAt tab8 x = lenF x := by
  obtain ⟨n, rfl⟩ := Int.eq_ofNat_of_zero_le h0
  have := List.all_eq_true.1 tab8_all n (List.mem_range.2 (by omega))
  simpa using this
theorem lenF_div {x : Int} (n : Nat) (p : Int) (hp : p = 2 ^ n) (h : p ≤ x) : lenF x = n + lenF (x / p) := by
  subst hp
  have p0 : (0 : Int) < 2 ^ n := Int.pow_pos (by omega)
  obtain ⟨m, rfl⟩ := Int.eq_ofNat_of_zero_le (show 0 ≤ x by omega)
  have e : (m : Int) / 2 ^ n = ((m / 2 ^ n : Nat) : Int) := by push_cast; rfl
  have hm : 2 ^ n ≤ m := by exact_mod_cast h
  have hq : 1 ≤ m / 2 ^ n := (Nat.one_le_div_iff (Nat.two_pow_pos n)).2 hm
  unfold lenF
  rw [e, if_neg (by omega), if_neg (by omega), Int.toNat_natCast, Int.toNat_natCast]
  have : Nat.log2 m = n + Nat.log2 (m / 2 ^ n) := by
    rw [Nat.log2_eq_iff (by omega)]
    obtain ⟨a, b⟩ := (Nat.log2_eq_iff (n := m / 2 ^ n) (k := Nat.log2 (m / 2 ^ n)) (by omega)).1 rfl
    generalize Nat.log2 (m / 2 ^ n) = k at *
    rw [Nat.le_div_iff_mul_le (Nat.two_pow_pos n)] at a
    rw [Nat.div_lt_iff_lt_mul (Nat.two_pow_pos n)] at b
    refine ⟨by rw [Nat.add_comm, Nat.pow_add]; exact a, ?_⟩
    rw [Nat.add_assoc, Nat.add_comm, Nat.pow_add]; exact b
  rw [this]
  omega
theorem lenF_bound {x : Int} (h0 : 0 ≤ x) (n : Nat) (h : x < 2 ^ n) : 0 ≤ lenF x ∧ lenF x ≤ n := by
  unfold lenF
  split
  · omega
  · obtain ⟨m, rfl⟩ := Int.eq_ofNat_of_zero_le h0
    rw [Int.toNat_natCast]
    have : Nat.log2 m < n := (Nat.log2_lt (by omega)).2 (by exact_mod_cast h)
    omega
theorem lenF_spec {x : Int} (h : 0 < x) : ∃ k : Nat, lenF x = k + 1 ∧ 2 ^ k ≤ x ∧ x < 2 ^ (k + 1) := by
  obtain ⟨m, rfl⟩ := Int.eq_ofNat_of_zero_le (show 0 ≤ x by omega)
  obtain ⟨a, b⟩ := (Nat.log2_eq_iff (n := m) (k := Nat.log2 m) (by omega)).1 rfl
  refine ⟨Nat.log2 m, ?_, by exact_mod_cast a, by exact_mod_cast b⟩
  unfold lenF
  rw [if_neg (by omega), Int.toNat_natCast]
  omega
theorem lenTail {x y c : Int} (hy : 0 ≤ y) (hy' : y < 256) (hc : 0 ≤ c ∧ c ≤ 64) (e : lenF x = c + lenF y) :
    ∀ v7, v7 = IntKind.u8.wrap y → (0 ≤ v7 ∧ v7 < 256) ∧ ∀ v8, v8 = byteAt tab8 v7 → ∀ v9, v9 = IntKind.i64.wrap v8 → ∀ v10, v10 = IntKind.i64.wrap (c + v9) → IntKind.i64 = IntKind.i64 ∧ v10 = lenF x := by
  intro v7 h7
  have e7 : v7 = y := by rw [h7, w_u8]; omega
  subst e7
  refine ⟨⟨hy, hy'⟩, fun v8 h8 v9 h9 v10 h10 => ⟨rfl, ?_⟩⟩
  rw [tab8_len hy hy'] at h8
  have b := lenF_bound hy 8 (by omega)
  rw [h8, i64_id (by omega) (by omega)] at h9
  rw [h9, i64_id (by omega) (by omega)] at h10
  rw [h10, e]

end Go.Sx
set_option linter.unusedVariables false
namespace Go.Sx

inductive SK where
  | int (k : IntKind)
  | bool

def FlatIs : List SK → List Value → Prop
  | [], [] => True
  | .int k :: ks, v :: vs => (∃ n, v = .int k n ∧ (Lit.int k n).wf = true) ∧ FlatIs ks vs
  | .bool :: ks, v :: vs => (∃ b, v = .bool b) ∧ FlatIs ks vs
  | _, _ => False

def repK (ks : List SK) : Nat → List SK
  | 0 => []
  | n + 1 => ks ++ repK ks n
def flatFs (P : Program) (g : TypeId → Option (List SK)) : Nat → List Field → Option (List SK)
  | _, [] => some []
  | off, f :: r => match g f.type with
    | some ks => match Nat.beq f.offset off, Nat.beq (P.cellsOf f.type) ks.length, flatFs P g (off + ks.length) r with
      | true, true, some l => some (ks ++ l)
      | _, _, _ => none
    | none => none
def flatK (P : Program) : Nat → TypeId → Option (List SK)
  | 0, _ => none
  | n + 1, t => match P.underlying t with
    | some (.int k) => some [.int k]
    | some .bool => some [.bool]
    | some (.array m e) => (match flatK P n e with
      | some ks => (match Nat.beq (P.cellsOf e) ks.length, Nat.beq (P.cellsOf t) (m * ks.length) with
        | true, true => some (repK ks m)
        | _, _ => none)
      | none => none)
    | some (.struct fs) => (match flatFs P (flatK P n) 0 fs.toList with
      | some ks => (match Nat.beq (P.cellsOf t) ks.length with | true => some ks | false => none)
      | none => none)
    | _ => none

theorem FlatIs.append : ∀ {ks ks' : List SK} {cs : List Value}, FlatIs ks (cs.take ks.length) → FlatIs ks' (cs.drop ks.length) → FlatIs (ks ++ ks') cs
  | [], ks', cs, _, h => by simpa using h
  | k :: ks, ks', [], h, _ => by cases k <;> simp [FlatIs] at h
  | .int k :: ks, ks', c :: cs, h, h' => by
    simp only [List.length_cons, List.take_succ_cons, FlatIs] at h
    exact ⟨h.1, FlatIs.append h.2 (by simpa using h')⟩
  | .bool :: ks, ks', c :: cs, h, h' => by
    simp only [List.length_cons, List.take_succ_cons, FlatIs] at h
    exact ⟨h.1, FlatIs.append h.2 (by simpa using h')⟩

theorem FlatIs.rep {ks : List SK} : ∀ {m : Nat} {cs : List Value}, cs.length = m * ks.length → (∀ i, i < m → FlatIs ks ((cs.drop (i * ks.length)).take ks.length)) → FlatIs (repK ks m) cs
  | 0, cs, hl, h => by
    have : cs = [] := by simpa using hl
    subst this; trivial
  | m + 1, cs, hl, h => by
    refine FlatIs.append (by simpa using h 0 (by omega)) (FlatIs.rep (m := m) ?_ fun i hi => ?_)
    · rw [List.length_drop, hl, Nat.add_mul]; omega
    · have := h (i + 1) (by omega)
      rw [List.drop_drop, show ks.length + i * ks.length = (i + 1) * ks.length by rw [Nat.add_mul]; omega]
      exact this

section
variable {H : Type} {enc : TypeId × Value → H} {P : Program} {w : World} {base : Nat} {spare : Nat → Bool} {held : Bool}

theorem flatFs_is {g : TypeId → Option (List SK)} {cs : List Value} : ∀ {fs : List Field} {off : Nat} {ks : List SK}, flatFs P g off fs = some ks → cs.length = off + ks.length →
    (∀ f ∈ fs, ∀ k, g f.type = some k → FlatIs k ((cs.drop f.offset).take (P.cellsOf f.type))) → FlatIs ks (cs.drop off)
  | [], off, ks, h, hl, hf => by
    simp only [flatFs] at h
    injection h with h; subst h
    have : cs.drop off = [] := by rw [List.drop_eq_nil_iff]; simp at hl; omega
    rw [this]; trivial
  | f :: r, off, ks, h, hl, hf => by
    simp only [flatFs] at h
    split at h
    · rename_i k hk
      split at h
      · rename_i l h1 h2 h3
        injection h with h; subst h
        have h1 := Nat.eq_of_beq_eq_true h1
        have h2 := Nat.eq_of_beq_eq_true h2
        have a := hf f (by simp) k hk
        rw [h1, h2] at a
        refine FlatIs.append a ?_
        rw [List.drop_drop]
        exact flatFs_is h3 (by rw [List.length_append] at hl; omega) fun f' hf' => hf f' (by simp [hf'])
      · cases h
    · cases h

theorem flat_trod : ∀ (n : Nat) {t : TypeId} {ks : List SK}, flatK P n t = some ks → ∀ {fuel : Nat} {cs : List Value} {x : DataW H × List MemPlace}, DataW.trod enc P w base spare held fuel t cs = some x → FlatIs ks cs
  | 0, t, ks, h, fuel, cs, x, ht => by simp [flatK] at h
  | n + 1, t, ks, h, fuel, cs, x, ht => by
    simp only [flatK] at h
    split at h
    · rename_i k hu
      injection h with h; subst h
      obtain ⟨m, rfl, _, hw⟩ := DataW.trod_int hu ht
      exact ⟨⟨m, rfl, hw⟩, trivial⟩
    · rename_i hu
      injection h with h; subst h
      obtain ⟨b, rfl, _⟩ := DataW.trod_bool hu ht
      exact ⟨⟨b, rfl⟩, trivial⟩
    · rename_i m e hu
      split at h
      · rename_i ks' he
        split at h
        · rename_i h1 h2
          injection h with h; subst h
          have h1 := Nat.eq_of_beq_eq_true h1
          have h2 := Nat.eq_of_beq_eq_true h2
          obtain ⟨xs, q, rfl, _, hl, hxl, hx⟩ := DataW.trod_array hu ht
          refine FlatIs.rep (by rw [hl, h2]) fun i hi => ?_
          have := hx i hi
          rw [h1, List.getElem?_eq_getElem (by omega)] at this
          exact flat_trod n he this
        · cases h
      · cases h
    · rename_i fs hu
      split at h
      · rename_i ks' he
        split at h
        · rename_i h1
          injection h with h; subst h
          have h1 := Nat.eq_of_beq_eq_true h1
          obtain ⟨xs, q, rfl, _, hl, hxl, hx⟩ := DataW.trod_struct hu ht
          have := flatFs_is (cs := cs) he (by rw [hl, h1]; omega) (fun f hf k hk => ?_)
          · simpa using this
          · obtain ⟨i, hi⟩ := List.getElem?_of_mem hf
            have h3 := hx i f (by rw [← Array.getElem?_toList]; exact hi)
            have hlt : i < xs.length := by
              rw [hxl]
              have := (List.getElem?_eq_some_iff.1 hi).1
              simpa using this
            rw [List.getElem?_eq_getElem hlt] at h3
            exact flat_trod n hk h3
        · cases h
      · cases h
    · cases h

theorem open_flat {t : TypeId} {xs : Array Value} {d : DataW H} {ps : List MemPlace} {n : Nat} {ks : List SK} (hk : flatK P n t = some ks)
    (h : DataW.Trod enc P w base spare held t (.agg xs) d ps) : FlatIs ks xs.toList := by
  obtain ⟨m, hm⟩ := h
  exact flat_trod n hk hm
end

theorem FlatIs.int {k : IntKind} {ks : List SK} {cs : List Value} (h : FlatIs (.int k :: ks) cs) : ∃ n r, cs = .int k n :: r ∧ (Lit.int k n).wf = true ∧ FlatIs ks r := by
  cases cs with
  | nil => exact h.elim
  | cons v vs => obtain ⟨⟨n, rfl, hw⟩, h2⟩ := h; exact ⟨n, vs, rfl, hw, h2⟩
theorem FlatIs.bool {ks : List SK} {cs : List Value} (h : FlatIs (.bool :: ks) cs) : ∃ b r, cs = .bool b :: r ∧ FlatIs ks r := by
  cases cs with
  | nil => exact h.elim
  | cons v vs => obtain ⟨⟨b, rfl⟩, h2⟩ := h; exact ⟨b, vs, rfl, h2⟩
theorem FlatIs.nil {cs : List Value} (h : FlatIs [] cs) : cs = [] := by
  cases cs with
  | nil => rfl
  | cons v vs => exact h.elim
theorem agg_of_list {xs : Array Value} {l : List Value} (h : xs.toList = l) : Value.agg xs = .agg l.toArray := by rw [← h]
def aggB (P : Program) (t : TypeId) : Bool := match P.underlying t with | some (.struct _) => true | some (.array _ _) => true | _ => false
theorem okWide_agg {P : Program} {w : World} {r : Reach} {base : Nat} {t : TypeId} {v : Value} (ht : aggB P t = true) (h : Value.okWide P w r base t v) : ∃ cs : Array Value, v = .agg cs ∧ cs.size = P.cellsOf t := by
  unfold aggB at ht
  split at ht
  · rename_i hu; simp only [Value.okWide, hu] at h; obtain ⟨cs, h1, h2, _⟩ := h; exact ⟨cs, h1, h2⟩
  · rename_i hu; simp only [Value.okWide, hu] at h; obtain ⟨cs, h1, h2, _⟩ := h; exact ⟨cs, h1, h2⟩
  · cases ht
end Go.Sx
