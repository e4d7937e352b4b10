import Derived.Test.YtaaobpalpcdlbaaSxH
set_option linter.unusedSimpArgs false
set_option linter.unusedVariables false
namespace Go.Sx
open Go.RowKit (Below)

theorem yielded_eq {ops : Array Oper} {tmps : Array Value} {j : Nat} {oj : Oper} {d : Nat} (h1 : ops.toList[j]? = some oj) (h2 : oj.dst = some d) :
    yielded ops tmps j = match tmps[d]? with | some (.bool b) => some b | _ => none := by
  have h1' : ops[j]? = some oj := by rw [← Array.getElem?_toList]; exact h1
  simp only [yielded, h1', h2, Option.bind_some]
  rfl

theorem nth_some {η : Nat → Nat} {ts : List SV} {a : Array Value} (h : LRel η ts a) {d : Nat} {v : SV} (hv : nth ts d = v) (hn : v ≠ .any) : a[d]? = some (v.den η) := h.nth hv hn

theorem guard_wanted {ops : Array Oper} {ts : List SV} {o : Oper} {η : Nat → Nat} {tmps : Array Value} (h : LRel η ts tmps) :
    (guardOf ops ts o = .yes → Region.wanted o (yielded ops tmps) = true) ∧
    (guardOf ops ts o = .no → Region.wanted o (yielded ops tmps) = false) ∧
    (∀ d b want, guardOf ops ts o = .ask d b want → nth ts d = .bool (.sym b) ∧ Region.wanted o (yielded ops tmps) = (b == want)) := by
  unfold guardOf Region.wanted
  cases hg : o.guard with
  | none => simp
  | some p =>
    obtain ⟨j, want⟩ := p
    simp only
    cases hj : ops.toList[j]? with
    | none =>
      have : yielded ops tmps j = none := by
        have h1' : ops[j]? = none := by rw [← Array.getElem?_toList]; exact hj
        simp [yielded, h1']
      simp [this]
    | some oj =>
      simp only
      cases hd : oj.dst with
      | none =>
        have : yielded ops tmps j = none := by
          have h1' : ops[j]? = some oj := by rw [← Array.getElem?_toList]; exact hj
          simp [yielded, h1', hd]
        simp [this]
      | some d =>
        simp only
        have hy := yielded_eq (tmps := tmps) hj hd
        cases hv : nth ts d with
        | any => simp
        | bool b =>
          have := nth_some h hv (by simp)
          rw [this] at hy
          simp only [SV.den] at hy
          cases b with
          | lit b => cases b <;> cases want <;> simp [hy]
          | sym b => simp only [hy]; refine ⟨by simp, by simp, ?_⟩; rintro d' b' w' e; cases e; exact ⟨hv, by simp⟩
        | val v =>
          have := nth_some h hv (by simp)
          rw [this] at hy
          simp only [SV.den] at hy
          cases v <;> simp_all
        | int k n => have := nth_some h hv (by simp); rw [this] at hy; simp only [SV.den] at hy; simp [hy]
        | str k => have := nth_some h hv (by simp); rw [this] at hy; simp only [SV.den] at hy; simp [hy]
        | ptr k n => have := nth_some h hv (by simp); rw [this] at hy; simp only [SV.den] at hy; simp [hy]
        | slice k n m l => have := nth_some h hv (by simp); rw [this] at hy; simp only [SV.den] at hy; simp [hy]
        | fsl k n m => have := nth_some h hv (by simp); rw [this] at hy; simp only [SV.den] at hy; simp [hy]
        | fptr k n m l => have := nth_some h hv (by simp); rw [this] at hy; simp only [SV.den] at hy; simp [hy]
        | bsl k n m l => have := nth_some h hv (by simp); rw [this] at hy; simp only [SV.den] at hy; simp [hy]
        | bptr k n m l => have := nth_some h hv (by simp); rw [this] at hy; simp only [SV.den] at hy; simp [hy]
        | fn k n => have := nth_some h hv (by simp); rw [this] at hy; simp only [SV.den] at hy; simp [hy]
        | mth k n => have := nth_some h hv (by simp); rw [this] at hy; simp only [SV.den] at hy; simp [hy]
        | yld k => have := nth_some h hv (by simp); rw [this] at hy; simp only [SV.den] at hy; simp [hy]
        | agg k => have := nth_some h hv (by simp); rw [this] at hy; simp only [SV.den] at hy; simp [hy]
        | tup k => have := nth_some h hv (by simp); rw [this] at hy; simp only [SV.den] at hy; simp [hy]

theorem putDst_rel {η : Nat → Nat} {ts : List SV} {a : Act} (h : LRel η ts a.tmps) (dst : Option Tmp) {v : SV} {x : Value} (hx : v = .any ∨ x = v.den η) : LRel η (putDst ts dst v) (a.put dst x).tmps := by
  cases dst with
  | none => exact h
  | some d => exact h.put d hx
@[simp] theorem put_defers (a : Act) (dst : Option Tmp) (x : Value) : (a.put dst x).defers = a.defers := by cases dst <;> rfl

theorem okAlloc_eq {ts : List SV} {hp : Hp} {b : SBk} (h : okAlloc ts hp b = true) : okHp (ltb hp.length) hp = true ∧ SV.allvs (ltb hp.length) ts = true ∧ b.allb (ltb hp.length) = true := by
  unfold okAlloc at h
  split at h
  · exact ⟨by assumption, by assumption, by assumption⟩
  · cases h

theorem dfs_congr {η η' : Nat → Nat} {l : List Nat} (h : ∀ d ∈ l, η' d = η d) : dfs η' l = dfs η l := by
  unfold dfs
  apply List.map_congr_left
  intro d hd
  rw [h d hd]

theorem lit_rel {w0 : World} {E : Ent} {η : Nat → Nat} {S : St} {a : Act} {w : World} (hS : RelS w0 E η S a w) {d : Nat} {b want : Bool} (hd : nth S.ts d = .bool (.sym b)) (hb : b = want) :
    RelS w0 E η ⟨put S.ts d (.bool (.lit want)), S.df, S.hp⟩ a w := by
  refine ⟨hS.hr, ?_, hS.df, hS.dfl, hS.po⟩
  have hv := hS.ts.nth hd (by simp)
  have := hS.ts.put d (v := .bool (.lit want)) (x := .bool b) (.inr (by simp [SV.den, hb]))
  have e : a.tmps.setIfInBounds d (.bool b) = a.tmps := by
    apply Array.ext_getElem?
    intro i
    rw [Array.getElem?_setIfInBounds]
    split
    · rename_i e; subst e
      rw [hv]
      have hlt := (Array.getElem?_eq_some_iff.1 hv).1
      simp [hlt, SV.den]
    · rfl
  rw [e] at this
  exact this

def RowOk (G : Glob) (cx : Cx) (ops : Array Oper) (k n : Nat) (S S' : St) : Prop :=
  ∀ E : Ent, ∀ F, WideF F → ∀ η a w, RelS G.w0 E η S a w → ∀ Q : Exit → Act → World → Prop, (∀ η' a' w', RelS G.w0 E η' S' a' w' → Q .normal a' w') →
    wpOpsIn F 0 G.P ops Q (List.range' k n) a w

theorem read_step {G : Glob} {E : Ent} {F : Fence} (hF : WideF F) {o : Oper} {S : St} {v : SV} {nb : Option SBk} {η : Nat → Nat} {a : Act} {w : World} (hd : ∀ c, o.op ≠ .defer c)
    (hok : opsOk S.ts o = true) (hR : ReadOk G.P G.w0 S.ts S.hp o v nb) (hna : ∀ b, nb = some b → okAlloc S.ts S.hp b = true) (hS : RelS G.w0 E η S a w)
    {next : Act → World → Prop} {Q : Exit → Act → World → Prop}
    (hn : ∀ η' a' w', RelS G.w0 E η' { S with ts := putDst S.ts o.dst v, hp := S.hp ++ (nb.map some).toList } a' w' → next a' w') : o.wpIn F 0 G.P a w next Q := by
  have ho : ∀ x ∈ o.op.operands, a.eval x = (evo S.ts x).den η := fun x hx => evo_rel hS.ts (opsOk_mem hok hx)
  have hrun := hR η a.eval w hS.hr ho
  refine ⟨about_ok hF, ?_⟩
  rw [Oper.semAt_eq _ _ _ hd]
  cases nb with
  | none =>
    simp only at hrun
    rw [hrun, Oper.uponIn_value]
    refine hn η _ w ?_
    simp only [Option.map_none, Option.toList_none, List.append_nil]
    exact ⟨hS.hr, putDst_rel hS.ts _ (.inr rfl), by simpa using hS.df, hS.dfl, hS.po⟩
  | some b =>
    obtain ⟨obj, hb, hrun⟩ := hrun
    obtain ⟨k1, k2, k3⟩ := okAlloc_eq (hna b rfl)
    rw [hrun, Oper.uponIn_value]
    have hlt : ∀ i, ltb S.hp.length i = true → upd η S.hp.length w.heap.size i = η i := fun i hi => upd_lt η (ltb_iff.1 hi)
    obtain ⟨m1, m2⟩ := move_alloc hS.hr k1 (b := b) (o := obj) (hb.congr hlt k3)
    refine hn (upd η S.hp.length w.heap.size) _ _ ?_
    simp only [Option.map_some, Option.toList_some]
    refine ⟨m1, putDst_rel (hS.ts.congr hlt k2) _ (.inr rfl), ?_, (fun d hd => by have := hS.dfl d hd; simp; omega), hS.po.trans m2⟩
    rw [put_defers, hS.df]
    exact (dfs_congr fun d hd => upd_lt η (hS.dfl d hd)).symm

theorem isRead_defer {G : Glob} {w0 : World} {ts : List SV} {hp : Hp} {o : Oper} {K : SV → Option SBk → Prop} (h : sRead G.P w0 ts hp o K) : ∀ c, o.op ≠ .defer c := by
  intro c e
  simp [sRead, e] at h

theorem eff_step {G : Glob} {E : Ent} {F : Fence} (hF : WideF F) {o : Oper} {S : St} {v : SV} {hp' : Hp} {η : Nat → Nat} {a : Act} {w : World}
    (hok : opsOk S.ts o = true) (hR : EffOk G o S.ts S.hp v hp') (hl : SV.allvs (ltb S.hp.length) S.ts = true) (hS : RelS G.w0 E η S a w)
    {next : Act → World → Prop} {Q : Exit → Act → World → Prop}
    (hn : ∀ η' a' w', RelS G.w0 E η' { S with ts := putDst S.ts o.dst v, hp := hp' } a' w' → next a' w') : o.wpIn F 0 G.P a w next Q := by
  have ho : ∀ x ∈ o.op.operands, a.eval x = (evo S.ts x).den η := fun x hx => evo_rel hS.ts (opsOk_mem hok hx)
  refine hR F hF η a w hS.hr ho next Q fun η' w' h1 h2 => hn η' _ w' ?_
  have hlt : ∀ i, ltb S.hp.length i = true → η' i = η i := fun i hi => h2.ext i (ltb_iff.1 hi)
  refine ⟨h1, putDst_rel (hS.ts.congr hlt hl) _ (.inr rfl), ?_, fun d hd => Nat.lt_of_lt_of_le (hS.dfl d hd) h2.len, hS.po.trans h2⟩
  rw [put_defers, hS.df]
  exact (dfs_congr fun d hd => h2.ext d (hS.dfl d hd)).symm

theorem skip_step {w0 : World} {E : Ent} {o : Oper} {S : St} {η : Nat → Nat} {a : Act} {w : World} (hS : RelS w0 E η S a w) :
    RelS w0 E η { S with ts := putDst S.ts o.dst (.val undef) } (a.put o.dst undef) w :=
  ⟨hS.hr, putDst_rel hS.ts _ (.inr rfl), by simpa using hS.df, hS.dfl, hS.po⟩

theorem exOps_sound {G : Glob} {r : Rec} (hr : RecOk G r) {cx : Cx} {ops : Array Oper} : ∀ (rest : List Oper) (k : Nat) (S : St) (K : St → Prop), exOps G r cx ops rest S K → ops.toList.drop k = rest →
    ∃ S', K S' ∧ S'.df = S.df ∧ RowOk G cx ops k rest.length S S'
  | [], k, S, K, h, _ => ⟨S, h, rfl, fun E F hF η a w hS Q hQ => by simpa [wpOpsIn] using hQ η a w hS⟩
  | o :: rest, k, S, K, h, hk => by
    have hk' : ops.toList.drop (k + 1) = rest := by rw [← List.drop_drop, hk]; rfl
    have hok : ops[k]? = some o := by
      rw [← Array.getElem?_toList]
      have := congrArg (fun l => l[0]?) hk
      simpa using this
    simp only [exOps_cons, forceV_eq, putDstF_eq, forceHp_eq] at h
    -- what is run
    have run : ∀ S : St, (match opsOk S.ts o with
      | false => False
      | true => match isRead o with
        | true => sRead G.P G.w0 S.ts S.hp o fun v nb =>
          match nb with
          | none => exOps G r cx ops rest { S with ts := putDst S.ts o.dst v } K
          | some b => match okAlloc S.ts S.hp b with
            | true => exOps G r cx ops rest { S with ts := putDst S.ts o.dst v, hp := S.hp ++ [some b] } K
            | false => False
        | false => match SV.allvs (ltb S.hp.length) S.ts with
          | true => exEff G r cx o S.ts S.hp fun v hp' => exOps G r cx ops rest { S with ts := putDst S.ts o.dst v, hp := hp' } K
          | false => False) →
        ∃ S', K S' ∧ S'.df = S.df ∧ ∀ E : Ent, ∀ F, WideF F → ∀ η a w, RelS G.w0 E η S a w → ∀ Q : Exit → Act → World → Prop, (∀ η' a' w', RelS G.w0 E η' S' a' w' → Q .normal a' w') →
          o.wpIn F 0 G.P a w (wpOpsIn F 0 G.P ops Q (List.range' (k + 1) rest.length)) Q := by
      intro S h
      split at h
      · cases h
      · rename_i hoo
        split at h
        · obtain ⟨v, nb, hK, hva, hR⟩ := sRead_sound hoo h
          have hdd := isRead_defer (G := G) h
          cases nb with
          | none =>
            simp only at hK
            obtain ⟨S', hS', hdf', hrow⟩ := exOps_sound hr rest (k + 1) _ K hK hk'
            exact ⟨S', hS', hdf', fun E F hF η a w hS Q hQ => read_step hF hdd hoo hR (fun b hb => by cases hb) hS (fun η' a' w' hr' => hrow E F hF η' a' w' (by simpa using hr') Q hQ)⟩
          | some b =>
            simp only at hK
            split at hK
            · rename_i hal
              obtain ⟨S', hS', hdf', hrow⟩ := exOps_sound hr rest (k + 1) _ K hK hk'
              exact ⟨S', hS', hdf', fun E F hF η a w hS Q hQ => read_step hF hdd hoo hR (fun b' hb => by cases hb; exact hal) hS (fun η' a' w' hr' => hrow E F hF η' a' w' (by simpa using hr') Q hQ)⟩
            · cases hK
        · split at h
          · rename_i hl
            obtain ⟨v, hp', hK, hE⟩ := exEff_sound hr hoo h
            obtain ⟨S', hS', hdf', hrow⟩ := exOps_sound hr rest (k + 1) _ K hK hk'
            refine ⟨S', hS', hdf', fun E F hF η a w hS Q hQ => eff_step hF hoo hE hl hS (fun η' a' w' hr' => hrow E F hF η' a' w' hr' Q hQ)⟩
          · cases h
    have skip : ∀ S : St, exOps G r cx ops rest { S with ts := putDst S.ts o.dst (.val undef) } K → ∃ S', K S' ∧ S'.df = S.df ∧ ∀ E : Ent, ∀ F, WideF F → ∀ η a w, RelS G.w0 E η S a w → ∀ Q : Exit → Act → World → Prop, (∀ η' a' w', RelS G.w0 E η' S' a' w' → Q .normal a' w') →
          wpOpsIn F 0 G.P ops Q (List.range' (k + 1) rest.length) (a.put o.dst undef) w := by
      intro S h
      obtain ⟨S', hS', hdf', hrow⟩ := exOps_sound hr rest (k + 1) _ K h hk'
      exact ⟨S', hS', hdf', fun E F hF η a w hS Q hQ => hrow E F hF η _ w (skip_step hS) Q hQ⟩
    have unf : ∀ F (Q : Exit → Act → World → Prop) a w, wpOpsIn F 0 G.P ops Q (List.range' k (o :: rest).length) a w =
        if Region.wanted o (yielded ops a.tmps) then o.wpIn F 0 G.P a w (wpOpsIn F 0 G.P ops Q (List.range' (k + 1) rest.length)) Q
        else (∀ f, o.about G.P w a.eval = some f → F.fn f) ∧ wpOpsIn F 0 G.P ops Q (List.range' (k + 1) rest.length) (a.put o.dst undef) w := by
      intro F Q a w
      simp only [List.length_cons, List.range'_succ, wpOpsIn, hok]
    cases hg : guardOf ops S.ts o with
    | yes =>
      rw [hg] at h
      obtain ⟨S', h1, h2, h3⟩ := run S h
      refine ⟨S', h1, h2, fun E F hF η a w hS Q hQ => ?_⟩
      rw [unf, if_pos ((guard_wanted hS.ts).1 hg)]
      exact h3 E F hF η a w hS Q hQ
    | no =>
      rw [hg] at h
      obtain ⟨S', h1, h2, h3⟩ := skip S h
      refine ⟨S', h1, h2, fun E F hF η a w hS Q hQ => ?_⟩
      rw [unf, if_neg (by rw [(guard_wanted hS.ts).2.1 hg]; simp)]
      exact ⟨about_ok hF, h3 E F hF η a w hS Q hQ⟩
    | ask d b want =>
      rw [hg] at h
      simp only [putF_eq] at h
      by_cases hb : b = want
      · obtain ⟨S', h1, h2, h3⟩ := run ⟨put S.ts d (.bool (.lit want)), S.df, S.hp⟩ (h.1 hb)
        refine ⟨S', h1, h2, fun E F hF η a w hS Q hQ => ?_⟩
        obtain ⟨g1, g2⟩ := (guard_wanted hS.ts).2.2 d b want hg
        rw [unf, if_pos (by rw [g2, hb]; cases want <;> rfl)]
        exact h3 E F hF η a w (lit_rel hS g1 hb) Q hQ
      · have hb' : b = !want := by clear h; cases b <;> cases want <;> first | rfl | exact absurd rfl hb
        obtain ⟨S', h1, h2, h3⟩ := skip ⟨put S.ts d (.bool (.lit (!want))), S.df, S.hp⟩ (h.2 hb')
        refine ⟨S', h1, h2, fun E F hF η a w hS Q hQ => ?_⟩
        obtain ⟨g1, g2⟩ := (guard_wanted hS.ts).2.2 d b want hg
        rw [unf, if_neg (by rw [g2, hb']; cases want <;> simp)]
        exact ⟨about_ok hF, h3 E F hF η a w (lit_rel hS g1 hb') Q hQ⟩
    | bad => rw [hg] at h; exact h.elim

end Go.Sx
