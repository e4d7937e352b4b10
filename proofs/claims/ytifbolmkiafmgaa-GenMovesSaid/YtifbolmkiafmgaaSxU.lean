import Derived.Test.YtifbolmkiafmgaaSxR
set_option linter.unusedVariables false
namespace Go.Sx
open Go.RowKit (Below)

inductive RC where
  | v (x : SV)
  | s (n : Int) (fs : List FC) (e : TypeId)
def rcV : Nat → List RC → List SV
  | _, [] => []
  | m, .v x :: r => x :: rcV m r
  | m, .s n _ _ :: r => .fsl (m + 1) n (.ltr m) :: rcV (m + 2) r
def rcH : Nat → List RC → Hp
  | _, [] => []
  | m, .v _ :: r => rcH m r
  | m, .s n fs e :: r => none :: some (.fblk n fs e (.ltr m fs.length)) :: rcH (m + 2) r
def rcR (m : Nat) : List RC → SV
  | [.v x] => x
  | [.s n _ _] => .fsl (m + 1) n (.ltr m)
  | l => .tup (rcV m l)
def freshAt (hp : Hp) (used : List Nat) : SV → Option (Nat × Nat × Int × SBk)
  | .fsl b n (.ltr k) => (match memN b used, hget hp b with | false, some bk => some (b, k, n, bk) | _, _ => none)
  | .slice b 0 l (.ltr k) => (match memN b used, hget hp b with | false, some bk => some (b, k, (l : Int), bk) | _, _ => none)
  | _ => none
def eqRC (hp : Hp) : List Nat → List SV → List RC → Prop
  | _, [], [] => True
  | used, c :: cs, .v x :: r => eqV c x ∧ eqRC hp used cs r
  | used, c :: cs, .s n fs e :: r => (match freshAt hp used c with
    | some (b, k, m, bk) => (m = n ∧ 0 ≤ n) ∧ leB bk (.fblk n fs e (.ltr k fs.length)) ∧ eqRC hp (b :: used) cs r
    | none => False)
  | _, _, _ => False
def eqR (hp : Hp) (r : SV) (rt : List RC) : Prop :=
  match rt with
  | [c] => (match r with | .tup _ => False | v => eqRC hp [] [v] [c])
  | rt => (match r with | .tup l => eqRC hp [] l rt | _ => False)

theorem freshAt_some {hp : Hp} {used : List Nat} {c : SV} {b k : Nat} {m : Int} {bk : SBk} (h : freshAt hp used c = some (b, k, m, bk)) :
    memN b used = false ∧ hget hp b = some bk ∧ ∀ η, c.den η = .slice (some ⟨η b, 0, none⟩) m.toNat (η k) := by
  unfold freshAt at h
  split at h
  · split at h
    · rename_i h1 h2
      simp only [Option.some.injEq, Prod.mk.injEq] at h
      obtain ⟨rfl, rfl, rfl, rfl⟩ := h
      exact ⟨h1, h2, fun η => rfl⟩
    · cases h
  · split at h
    · rename_i h1 h2
      simp only [Option.some.injEq, Prod.mk.injEq] at h
      obtain ⟨rfl, rfl, rfl, rfl⟩ := h
      exact ⟨h1, h2, fun η => by simp [SV.den]⟩
    · cases h
  · cases h

theorem place {w0 w w1 : World} {η1 : Nat → Nat} {hp1 : Hp} (h1 : HR w η1 hp1 w1) (hlo : w0.heap.size ≤ w.heap.size) : ∀ (rt : List RC) (vs : List SV) (used : List Nat) (η : Nat → Nat) (hp : Hp), HR w0 η hp w1 → okHp (ltb hp.length) hp = true →
    (∀ i b, hget hp i = some b → η i < w.heap.size ∨ ∃ u, memN u used = true ∧ η i = η1 u ∧ ∃ bk, hget hp1 u = some bk) → eqRC hp1 used vs rt →
    ∃ η', HR w0 η' (hp ++ rcH hp.length rt) w1 ∧ (∀ i, i < hp.length → η' i = η i) ∧ SV.dens η' (rcV hp.length rt) = SV.dens η1 vs ∧ ∀ i b, hget (hp ++ rcH hp.length rt) i = some b → hp.length ≤ i → w.heap.size ≤ η' i
  | [], vs, used, η, hp, h, hok, hf, he => by
    cases vs with
    | nil => exact ⟨η, by simpa [rcH] using h, fun _ _ => rfl, rfl, fun i b hb hi => by simp only [rcH, List.append_nil] at hb; exact absurd (hget_some_lt hb) (by omega)⟩
    | cons c cs => simp [eqRC] at he
  | .v x :: r, vs, used, η, hp, h, hok, hf, he => by
    cases vs with
    | nil => simp [eqRC] at he
    | cons c cs =>
      simp only [eqRC] at he
      obtain ⟨η', a, b, d, e⟩ := place h1 hlo r cs used η hp h hok hf he.2
      refine ⟨η', a, b, ?_, e⟩
      simp only [rcV, SV.dens]
      rw [d, eqV_den he.1 η1 η']
  | .s n fs e :: r, vs, used, η, hp, h, hok, hf, he => by
    cases vs with
    | nil => simp [eqRC] at he
    | cons c cs =>
      simp only [eqRC] at he
      split at he
      · rename_i b k m bk hfr
        obtain ⟨hu, hb1, hden⟩ := freshAt_some hfr
        obtain ⟨⟨rfl, hm⟩, hle, he⟩ := he
        obtain ⟨o, ho, hrel⟩ := h1.cell b bk hb1
        have hrel2 := leB_rel hle hrel
        have hlow := h1.hi b bk hb1
        have hη2 : ∀ i, i < hp.length → upd (upd η hp.length (η1 k)) (hp.length + 1) (η1 b) i = η i := fun i hi => by rw [upd_lt _ (by omega), upd_lt _ hi]
        have hnum : upd (upd η hp.length (η1 k)) (hp.length + 1) (η1 b) hp.length = η1 k := by rw [upd_lt _ (by omega), upd_same]
        have hadr : upd (upd η hp.length (η1 k)) (hp.length + 1) (η1 b) (hp.length + 1) = η1 b := upd_same _ _ _
        generalize hη : upd (upd η hp.length (η1 k)) (hp.length + 1) (η1 b) = η2 at hη2 hnum hadr
        let nb : SBk := .fblk m fs e (.ltr hp.length fs.length)
        have hnb : nb.Rel η2 o := by
          obtain ⟨cc, fz, ⟨q0, ⟨q1, q2⟩, q3⟩, q4, q5⟩ := hrel2
          exact ⟨cc, fz, ⟨q0, ⟨by rw [hnum]; exact q1, q2⟩, q3⟩, q4, q5⟩
        have hg : ∀ i b', hget (hp ++ [none, some nb]) i = some b' → (i < hp.length ∧ hget hp i = some b') ∨ (i = hp.length + 1 ∧ b' = nb) := by
          intro i b' hb'
          rw [hget_append] at hb'
          split at hb'
          · exact .inl ⟨‹_›, hb'⟩
          · rename_i hi
            generalize hj : i - hp.length = j at hb'
            match j, hb' with
            | 0, hb' => simp [hget] at hb'
            | 1, hb' => simp [hget] at hb'; exact .inr ⟨by omega, hb'.symm⟩
            | j + 2, hb' => simp [hget] at hb'
        have hlen : (hp ++ [none, some nb] : Hp).length = hp.length + 2 := by simp
        have hlt : ∀ i, ltb hp.length i = true → η2 i = η i := fun i hi => hη2 i (ltb_iff.1 hi)
        have hold : ∀ i b', hget hp i = some b' → η2 i ≠ η1 b := by
          intro i b' hb' heq
          rw [hη2 i (hget_some_lt hb')] at heq
          rcases hf i b' hb' with q | ⟨u, q1, q2, bu, q3⟩
          · omega
          · have : u = b := h1.inj u b bu bk q3 hb1 (q2.symm.trans heq)
            subst this
            rw [hu] at q1; cases q1
        have hR2 : HR w0 η2 (hp ++ [none, some nb]) w1 := by
          refine ⟨h.base, fun i b' hb' => ?_, fun i b' hb' => ?_, fun i j bi bj hbi hbj heq => ?_⟩
          · rcases hg i b' hb' with ⟨hi, hb''⟩ | ⟨rfl, rfl⟩
            · rw [hη2 i hi]; exact h.hi i b' hb''
            · rw [hadr]; exact Nat.le_trans hlo hlow
          · rcases hg i b' hb' with ⟨hi, hb''⟩ | ⟨rfl, rfl⟩
            · obtain ⟨o', ho', hr'⟩ := h.cell i b' hb''
              exact ⟨o', by rw [hη2 i hi]; exact ho', hr'.congr hlt (okHp_get hok hb'')⟩
            · exact ⟨o, by rw [hadr]; exact ho, hnb⟩
          · rcases hg i bi hbi with ⟨hi, hbi'⟩ | ⟨rfl, rfl⟩ <;> rcases hg j bj hbj with ⟨hj, hbj'⟩ | ⟨rfl, rfl⟩
            · rw [hη2 i hi, hη2 j hj] at heq; exact h.inj i j _ _ hbi' hbj' heq
            · rw [hadr] at heq; exact absurd heq (hold i _ hbi')
            · rw [hadr] at heq; exact absurd heq.symm (hold j _ hbj')
            · rfl
        have hok2 : okHp (ltb (hp ++ [none, some nb] : Hp).length) (hp ++ [none, some nb]) = true := by
          rw [hlen]
          refine okHp_append (okHp_mono (fun i hi => ltb_iff.2 (by have := ltb_iff.1 hi; omega)) hok) ?_
          show okHp _ [none, some nb] = true
          simp only [okHp, nb, SBk.allb, ST.all]
          rw [ltb_iff.2 (by omega)]
        have hf2 : ∀ i b', hget (hp ++ [none, some nb]) i = some b' → η2 i < w.heap.size ∨ ∃ u, memN u (b :: used) = true ∧ η2 i = η1 u ∧ ∃ bk, hget hp1 u = some bk := by
          intro i b' hb'
          rcases hg i b' hb' with ⟨hi, hb''⟩ | ⟨rfl, rfl⟩
          · rw [hη2 i hi]
            rcases hf i b' hb'' with q | ⟨u, q1, q2, q3⟩
            · exact .inl q
            · refine .inr ⟨u, ?_, q2, q3⟩
              rw [memN_iff] at q1 ⊢
              exact List.mem_cons_of_mem _ q1
          · exact .inr ⟨b, by rw [memN_iff]; exact List.mem_cons_self, hadr, bk, hb1⟩
        obtain ⟨η', a1, a2, a3, a4⟩ := place h1 hlo r cs (b :: used) η2 (hp ++ [none, some nb]) hR2 hok2 hf2 he
        rw [hlen] at a1 a2 a3 a4
        have happ : hp ++ [none, some nb] ++ rcH (hp.length + 2) r = hp ++ rcH hp.length (.s m fs e :: r) := by simp [rcH, nb]
        rw [happ] at a1 a4
        refine ⟨η', a1, fun i hi => by rw [a2 i (by omega), hη2 i hi], ?_, fun i b' hb' hi => ?_⟩
        · simp only [rcV, SV.dens]
          rw [a3, hden]
          simp only [SV.den, SN.den]
          rw [a2 _ (by omega), a2 _ (by omega), hnum, hadr]
        · by_cases hi2 : hp.length + 2 ≤ i
          · exact a4 i b' hb' hi2
          · have hi3 : i = hp.length ∨ i = hp.length + 1 := by omega
            rcases hi3 with rfl | rfl
            · rw [hget_append, if_neg (by omega)] at hb'
              simp [rcH, hget] at hb'
            · rw [a2 _ (by omega), hadr]; exact hlow
      · cases he

theorem eqR_place {hp1 : Hp} {r : SV} {rt : List RC} (h : eqR hp1 r rt) : ∃ vs, eqRC hp1 [] vs rt ∧ ∀ η η' m, SV.dens η (rcV m rt) = SV.dens η' vs → (rcR m rt).den η = r.den η' := by
  unfold eqR at h
  split at h
  · rename_i c
    split at h
    · cases h
    · refine ⟨_, h, fun η η' m e => ?_⟩
      cases c with
      | v x => simp only [rcV, SV.dens, List.cons.injEq, and_true] at e; exact e
      | s n fs t => simp only [rcV, SV.dens, List.cons.injEq, and_true] at e; exact e
  · rename_i hne
    split at h
    · refine ⟨_, h, fun η η' m e => ?_⟩
      have : rcR m rt = .tup (rcV m rt) := by
        unfold rcR; split
        · exact absurd rfl (hne _)
        · exact absurd rfl (hne _)
        · rfl
      rw [this]
      simp only [SV.den, e]
    · cases h

def RunOk (P : Program) (w0 : World) (f : FuncId) (args : List SV) (rt : List RC) : Prop :=
  ∀ η w, Below w0.heap.size w0 w → FnRun P f (SV.dens η args).toArray w fun x w' => ∃ η1 hp1 r, x = r.den η1 ∧ HR w η1 hp1 w' ∧ eqR hp1 r rt
theorem RunOk.of_tie {P : Program} {w0 : World} {f : FuncId} {args args' : List SV} {rt : List RC} (G : World → Glob) (hG : ∀ w, GOk (G w)) (hP : ∀ w, (G w).P = P) (hw : ∀ w, (G w).w0 = w)
    (ha : eqVs args args') (n : Nat) (VC : World → Prop) (tie : ∀ w, VC w = (recN (G w) n).call f args' [] (fun u h => eqR h u rt)) (hm : memOk w0 args) (h : ∀ w, memOk w args → VC w) : RunOk P w0 f args rt := by
  intro η w hb
  obtain ⟨u, hp', hK, hc⟩ := call_sound (hG w) n (by rw [← tie w]; exact h w (memOk_below hb hm))
  have h0 : HR (G w).w0 (fun i => i) [] w := by rw [hw w]; exact HR.start w
  have := hc (fun i => i) w h0
  rw [hP w, ← eqVs_den ha η (fun i => i)] at this
  refine this.mono ?_
  rintro x w' ⟨η', rfl, h1, _⟩
  rw [hw w] at h1
  exact ⟨η', hp', u, rfl, h1, hK⟩
abbrev RSpec := List SV → (List RC → Prop) → Prop
def SpecOkR (P : Program) (f : FuncId) (s : RSpec) : Prop := ∀ args k, s args k → ∃ rt, k rt ∧ ∀ w0 args', eqBL args args' → memOk w0 args' → RunOk P w0 f args' rt
def SpecsOkR (P : Program) : List (FuncId × RSpec) → Prop
  | [] => True
  | (g, s) :: r => SpecOkR P g s ∧ SpecsOkR P r
def rcon (w0 : World) (s : RSpec) : Con := fun args hp K => match okHp (ltb hp.length) hp with
  | true => memC w0 hp args (s (asBs hp args) fun rt => K (rcR hp.length rt) (hp ++ rcH hp.length rt))
  | false => False
def lookR (w0 : World) : List (FuncId × RSpec) → FuncId → Option Con
  | [], _ => none
  | (g, s) :: r, f => match Nat.beq f g with | true => some (rcon w0 s) | false => lookR w0 r f
theorem RunOk.call {G : Glob} {f : FuncId} {args : List SV} {hp : Hp} {rt : List RC} (hok : okHp (ltb hp.length) hp = true)
    (h : ∀ η w, HR G.w0 η hp w → ∃ args', SV.dens η args' = SV.dens η args ∧ RunOk G.P w f args' rt) : CallOk G f args hp (rcR hp.length rt) (hp ++ rcH hp.length rt) := by
  intro η w hw
  obtain ⟨args', ha, hr⟩ := h η w hw
  have := hr η w (Below.self w)
  rw [ha] at this
  refine this.mono ?_
  rintro x w' ⟨η1, hp1, r, rfl, h1, he⟩
  obtain ⟨m1, m2⟩ := move_grow hw h1.base
  obtain ⟨vs, he, hden⟩ := eqR_place he
  obtain ⟨η', a1, a2, a3, a4⟩ := place h1 hw.base.size rt vs [] η hp m1 hok (fun i b hb => .inl (hw.lt hb)) he
  refine ⟨η', (hden η' η1 _ a3).symm, a1, ?_⟩
  refine ⟨a2, by simp, fun i b hb hi => ?_, fun i b hb hi => .inl (a4 i b hb hi), h1.base.os, h1.base.tape, h1.base.output, h1.base.size, fun q hq _ => h1.base.block q hq⟩
  rw [hget_append, if_pos hi] at hb
  exact ⟨b, hb⟩
theorem nil_end (hp : Hp) : ∃ e, hp = hp ++ e := ⟨[], by simp⟩
theorem lookC_calm {P : Program} {G : Glob} (hP : G.P = P) : ∀ {l : List (FuncId × CSpec)}, SpecsOk P l → ∀ {f : FuncId} {C : Con}, lookC l f = some C → ∀ args hp K, C args hp K → ∃ v hp', K v hp' ∧ CallOk G f args hp v hp' ∧ ∃ e, hp' = hp ++ e
  | [], _, f, C, h, _, _, _, _ => by simp [lookC] at h
  | (g, s) :: r, hs, f, C, h, args, hp, K, hC => by
    simp only [lookC] at h
    split at h
    · rename_i hfg
      have hfg := Nat.eq_of_beq_eq_true hfg
      subst hfg
      injection h with h
      subst h
      obtain ⟨v, hv, hp'⟩ := hs.1 args _ hC
      subst hP
      exact ⟨v, hp, hv, hp'.call hp, nil_end hp⟩
    · exact lookC_calm hP hs.2 h args hp K hC
theorem lookW_calm {P : Program} {G : Glob} (hP : G.P = P) : ∀ {l : List (FuncId × WSpec)}, SpecsOkW P l → ∀ {f : FuncId} {C : Con}, lookW G.w0 l f = some C → ∀ args hp K, C args hp K → ∃ v hp', K v hp' ∧ CallOk G f args hp v hp' ∧ ∃ e, hp' = hp ++ e
  | [], _, f, C, h, _, _, _, _ => by simp [lookW] at h
  | (g, s) :: r, hs, f, C, h, args, hp, K, hC => by
    simp only [lookW] at h
    split at h
    · rename_i hfg
      have hfg := Nat.eq_of_beq_eq_true hfg
      subst hfg
      injection h with h
      subst h
      obtain ⟨v, hv, hp'⟩ := hs.1 G.w0 args _ hC
      subst hP
      exact ⟨v, hp, hv, hp'.call hp, nil_end hp⟩
    · exact lookW_calm hP hs.2 h args hp K hC
theorem lookF_calm {P : Program} {G : Glob} (hP : G.P = P) : ∀ {l : List (FuncId × CSpec)}, SpecsOkF P l → ∀ {f : FuncId} {C : Con}, lookF G.w0 l f = some C → ∀ args hp K, C args hp K → ∃ v hp', K v hp' ∧ CallOk G f args hp v hp' ∧ ∃ e, hp' = hp ++ e
  | [], _, f, C, h, _, _, _, _ => by simp [lookF] at h
  | (g, s) :: r, hs, f, C, h, args, hp, K, hC => by
    simp only [lookF] at h
    split at h
    · rename_i hfg
      have hfg := Nat.eq_of_beq_eq_true hfg
      subst hfg
      injection h with h
      subst h
      obtain ⟨hX, hmem⟩ := memC_sound hC
      obtain ⟨v, hv, hv2⟩ := hs.1 _ _ hX
      refine ⟨v, hp, hv, fun η w hw => ?_, nil_end hp⟩
      obtain ⟨a1, a2, a3⟩ := hmem η w hw
      have := hv2 w _ a3 a1 η w (Below.self w)
      rw [a2] at this
      subst hP
      refine this.mono ?_
      rintro x w' ⟨rfl, hb⟩
      obtain ⟨m1, m2⟩ := move_grow hw hb
      exact ⟨η, rfl, m1, m2⟩
    · exact lookF_calm hP hs.2 h args hp K hC
theorem lookR_calm {P : Program} {G : Glob} (hP : G.P = P) : ∀ {l : List (FuncId × RSpec)}, SpecsOkR P l → ∀ {f : FuncId} {C : Con}, lookR G.w0 l f = some C → ∀ args hp K, C args hp K → ∃ v hp', K v hp' ∧ CallOk G f args hp v hp' ∧ ∃ e, hp' = hp ++ e
  | [], _, f, C, h, _, _, _, _ => by simp [lookR] at h
  | (g, s) :: r, hs, f, C, h, args, hp, K, hC => by
    simp only [lookR] at h
    split at h
    · rename_i hfg
      have hfg := Nat.eq_of_beq_eq_true hfg
      subst hfg
      injection h with h
      subst h
      unfold rcon at hC
      split at hC
      · rename_i hok
        obtain ⟨hX, hmem⟩ := memC_sound hC
        obtain ⟨rt, hv, hv2⟩ := hs.1 _ _ hX
        refine ⟨_, _, hv, RunOk.call hok fun η w hw => ?_, ⟨_, rfl⟩⟩
        obtain ⟨a1, a2, a3⟩ := hmem η w hw
        subst hP
        exact ⟨_, a2, hv2 w _ a3 a1⟩
      · cases hC
    · exact lookR_calm hP hs.2 h args hp K hC
def lookAll (l : List (FuncId × CSpec)) (lw : List (FuncId × WSpec)) (lf : List (FuncId × CSpec)) (lr : List (FuncId × RSpec)) (w0 : World) (f : FuncId) : Option Con := match lookCWF l lw lf w0 f with | some C => some C | none => lookR w0 lr f
abbrev Shapes := List (FuncId × Nat × List (Nat × Nat))
def lookH : Shapes → FuncId → Nat → List (Nat × Nat)
  | [], _, _ => []
  | (g, b, s) :: r, f, i => match Nat.beq f g, Nat.beq i b with | true, true => s | _, _ => lookH r f i
def GR (P : Program) (l : List (FuncId × CSpec)) (lw : List (FuncId × WSpec)) (lf : List (FuncId × CSpec)) (lr : List (FuncId × RSpec)) (as cs : Anns) (sp : Spls) (pl : List (FuncId × Nat)) (fx : Fixs) (sh : Shapes) (w0 : World) : Glob := { P := P, w0 := w0, orc := lookAll l lw lf lr w0, ann := lookA as, cut := lookA cs, spl := lookS sp, peel := lookP pl, fix := lookX fx, shape := lookH sh, calm := fun f => match lookAll l lw lf lr w0 f with | some _ => true | none => false }
theorem gokR {P : Program} {l : List (FuncId × CSpec)} {lw : List (FuncId × WSpec)} {lf : List (FuncId × CSpec)} {lr : List (FuncId × RSpec)} {as cs : Anns} {sp : Spls} {pl : List (FuncId × Nat)} {fx : Fixs} {sh : Shapes} (w0 : World) (h1 : namesOk P = true) (h2 : P.follows .mixedOrders = true) (h3 : SpecsOk P l) (h4 : SpecsOkW P lw) (h5 : SpecsOkF P lf) (h6 : SpecsOkR P lr) : GOk (GR P l lw lf lr as cs sp pl fx sh w0) :=
  have key : ∀ f C, lookAll l lw lf lr w0 f = some C → ∀ args hp K, C args hp K → ∃ v hp', K v hp' ∧ CallOk (GR P l lw lf lr as cs sp pl fx sh w0) f args hp v hp' ∧ ∃ e, hp' = hp ++ e := by
    intro f C h args hp K hC
    unfold lookAll at h
    split at h
    · rename_i C' hl
      injection h with h
      subst h
      unfold lookCWF at hl
      split at hl
      · rename_i C'' hl1
        injection hl with hl
        subst hl
        unfold lookCW at hl1
        split at hl1
        · rename_i C3 hl2
          injection hl1 with hl1
          subst hl1
          exact lookC_calm (G := GR P l lw lf lr as cs sp pl fx sh w0) rfl h3 hl2 args hp K hC
        · exact lookW_calm (G := GR P l lw lf lr as cs sp pl fx sh w0) rfl h4 hl1 args hp K hC
      · exact lookF_calm (G := GR P l lw lf lr as cs sp pl fx sh w0) rfl h5 hl args hp K hC
    · exact lookR_calm (G := GR P l lw lf lr as cs sp pl fx sh w0) rfl h6 h args hp K hC
  GOk.mk0 h1 h2 (fun f C h args hp K hC => by
    obtain ⟨v, hp', a, b, _⟩ := key f C h args hp K hC
    exact ⟨v, hp', a, b⟩) fun f h => by
    have h : (match lookAll l lw lf lr w0 f with | some _ => true | none => false) = true := h
    split at h
    · rename_i C hC
      exact ⟨C, hC, key f C hC⟩
    · cases h
end Go.Sx
