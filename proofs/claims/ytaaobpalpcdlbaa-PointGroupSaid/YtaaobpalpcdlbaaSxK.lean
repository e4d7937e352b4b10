import Derived.Test.YtaaobpalpcdlbaaSxI
set_option linter.unusedSimpArgs false
set_option linter.unusedVariables false
namespace Go.Sx
open Go.RowKit (Below)

mutual
theorem allv_ids {p : Nat → Bool} : ∀ v : SV, v.allv p = true ↔ ∀ i ∈ idsV v, p i = true
  | .any => by simp [SV.allv, idsV]
  | .bool _ => by simp [SV.allv, idsV]
  | .int _ _ => by simp [SV.allv, idsV]
  | .str _ => by simp [SV.allv, idsV]
  | .ptr b o => by simp [SV.allv, idsV]
  | .slice b o l c => by
    cases c with
    | lit n => cases hb : p b <;> simp [SV.allv, idsV, SN.all, hb]
    | ltr k => cases hb : p b <;> simp [SV.allv, idsV, SN.all, hb]
    | num k => cases hb : p b <;> simp [SV.allv, idsV, SN.all, hb]
  | .fsl b n c => by
    cases c with
    | lit n => cases hb : p b <;> simp [SV.allv, idsV, SN.all, hb]
    | ltr k => cases hb : p b <;> simp [SV.allv, idsV, SN.all, hb]
    | num k => cases hb : p b <;> simp [SV.allv, idsV, SN.all, hb]
  | .fptr b i z o => by simp [SV.allv, idsV]
  | .bsl _ _ _ _ => by simp [SV.allv, idsV]
  | .bptr _ _ _ _ => by simp [SV.allv, idsV]
  | .fn f cs => by simp only [SV.allv, idsV]; exact allvs_ids cs
  | .mth f cs => by simp only [SV.allv, idsV]; exact allvs_ids cs
  | .yld b => by simp [SV.allv, idsV]
  | .agg cs => by simp only [SV.allv, idsV]; exact allvs_ids cs
  | .tup cs => by simp only [SV.allv, idsV]; exact allvs_ids cs
  | .val _ => by simp [SV.allv, idsV]
theorem allvs_ids {p : Nat → Bool} : ∀ l : List SV, SV.allvs p l = true ↔ ∀ i ∈ idsL l, p i = true
  | [] => by simp [SV.allvs, idsL]
  | c :: r => by
    rw [allvs_cons, allv_ids c, allvs_ids r]
    simp only [idsL, List.mem_append]
    exact ⟨fun h i hi => hi.elim (h.1 i) (h.2 i), fun h => ⟨fun i hi => h i (.inl hi), fun i hi => h i (.inr hi)⟩⟩
end
theorem allb_ids {p : Nat → Bool} (b : SBk) : b.allb p = true ↔ ∀ i ∈ idsB (some b), p i = true := by
  cases b with
  | cells cs ty tl =>
    cases tl with
    | full => exact allvs_ids cs
    | ltr k z =>
      have := allvs_ids (p := p) cs
      cases hk : p k <;> simp [SBk.allb, idsB, ST.all, hk, this]
  | loop st pe ts ps asg body db =>
    simp only [SBk.allb, idsB, List.mem_cons]
    constructor
    · intro h i hi
      split at h
      · rename_i hd
        rcases hi with rfl | hi
        · exact hd
        · exact (allvs_ids ts).1 h i hi
      · cases h
    · intro h
      rw [h db (.inl rfl)]
      exact (allvs_ids ts).2 fun i hi => h i (.inr hi)
  | dfr => simp [SBk.allb, idsB]
  | fblk n fs ty tl => cases tl <;> simp [SBk.allb, idsB, ST.all]

theorem den_ids {η η' : Nat → Nat} {v : SV} (h : ∀ i ∈ idsV v, η' i = η i) : v.den η' = v.den η := by
  have := den_congr (p := fun i => decide (η' i = η i)) (η := η) (η' := η') (fun i hi => of_decide_eq_true hi) v ((allv_ids v).2 fun i hi => by simpa using h i hi)
  exact this
theorem brel_ids {η η' : Nat → Nat} {b : SBk} {o : Obj} (h : ∀ i ∈ idsB (some b), η' i = η i) (hb : b.Rel η o) : b.Rel η' o :=
  hb.congr (p := fun i => decide (η' i = η i)) (fun i hi => of_decide_eq_true hi) ((allb_ids b).2 fun i hi => by simpa using h i hi)

theorem memN_iff {x : Nat} : ∀ {l : List Nat}, memN x l = true ↔ x ∈ l
  | [] => by simp [memN]
  | y :: r => by
    simp only [memN]
    split
    · rename_i h; have h := Nat.eq_of_beq_eq_true h; simp [h]
    · rename_i h; have h := Nat.ne_of_beq_eq_false h; rw [memN_iff (l := r)]; simp [h]
theorem memN_false {x : Nat} {l : List Nat} : memN x l = false ↔ x ∉ l := by
  rw [← memN_iff]; simp

theorem allLt_mem : ∀ {l : List Nat} {n : Nat}, allLt l n = true → ∀ d ∈ l, d < n
  | [], _, _, d, hd => by cases hd
  | x :: r, n, h, d, hd => by
    simp only [allLt] at h
    split at h
    · rename_i hx
      rcases List.mem_cons.1 hd with rfl | hd
      · simpa [Nat.blt_eq] using hx
      · exact allLt_mem h d hd
    · cases h

theorem restrict_go (fp : List Nat) : ∀ (hp : Hp) (k i : Nat), hget (restrict.go fp k hp) i = match memN (k + i) fp with | true => hget hp i | false => none
  | [], k, i => by simp only [restrict.go, hget]; cases memN (k + i) fp <;> rfl
  | b :: r, k, 0 => by
    simp only [restrict.go, hget, Nat.add_zero]
    cases memN k fp <;> rfl
  | b :: r, k, i + 1 => by
    simp only [restrict.go, hget]
    rw [restrict_go fp r (k + 1) i, show k + 1 + i = k + (i + 1) by omega]
theorem hget_restrict (hp : Hp) (fp : List Nat) (i : Nat) : hget (restrict hp fp) i = match memN i fp with | true => hget hp i | false => none := by
  have := restrict_go fp hp 0 i
  simpa [restrict] using this
theorem restrict_go_length (fp : List Nat) : ∀ (hp : Hp) (k : Nat), (restrict.go fp k hp).length = hp.length
  | [], k => rfl
  | b :: r, k => by simp [restrict.go, restrict_go_length fp r]
@[simp] theorem restrict_length (hp : Hp) (fp : List Nat) : (restrict hp fp).length = hp.length := restrict_go_length fp hp 0
theorem merge_go (fp : List Nat) : ∀ (hp hp' : Hp) (k i : Nat), hp.length ≤ hp'.length → hget (mergeH.go fp k hp hp') i = if i < hp.length ∧ memN (k + i) fp = false then hget hp i else hget hp' i
  | [], hp', k, i, _ => by simp [mergeH.go]
  | b :: r, [], k, i, h => by simp at h
  | b :: r, b' :: r', k, 0, h => by
    simp only [mergeH.go, hget, Nat.add_zero]
    cases memN k fp <;> simp
  | b :: r, b' :: r', k, i + 1, h => by
    simp only [mergeH.go, hget]
    rw [merge_go fp r r' (k + 1) i (by simpa using h), show k + 1 + i = k + (i + 1) by omega]
    simp
theorem hget_merge {hp hp' : Hp} {fp : List Nat} (h : hp.length ≤ hp'.length) (i : Nat) : hget (mergeH hp hp' fp) i = if i < hp.length ∧ memN i fp = false then hget hp i else hget hp' i := by
  have := merge_go fp hp hp' 0 i h
  simpa [mergeH] using this
theorem merge_go_length (fp : List Nat) : ∀ (hp hp' : Hp) (k : Nat), hp.length ≤ hp'.length → (mergeH.go fp k hp hp').length = hp'.length
  | [], hp', k, _ => by simp [mergeH.go]
  | b :: r, [], k, h => by simp at h
  | b :: r, b' :: r', k, h => by simp [mergeH.go, merge_go_length fp r r' (k + 1) (by simpa using h)]
theorem merge_length {hp hp' : Hp} {fp : List Nat} (h : hp.length ≤ hp'.length) : (mergeH hp hp' fp).length = hp'.length := merge_go_length fp hp hp' 0 h

def Agree (η : Nat → Nat) (x : Option Value) (v : SV) : Prop := v = .any ∨ x = some (v.den η)
structure Sim (v u : SV) : Prop where
  any : v = .any ↔ u = .any
  den : ∀ η, v.den η = u.den η
  ids : idsV v = idsV u
theorem Sim.refl (v : SV) : Sim v v := ⟨Iff.rfl, fun _ => rfl, rfl⟩
theorem Sim.trans {a b c : SV} (h : Sim a b) (k : Sim b c) : Sim a c := ⟨h.any.trans k.any, fun η => (h.den η).trans (k.den η), h.ids.trans k.ids⟩
theorem Sim.agree {a b : SV} (h : Sim a b) {η : Nat → Nat} {x : Option Value} (hx : Agree η x b) : Agree η x a := by
  rcases hx with e | e
  · exact .inl (h.any.2 e)
  · exact .inr (by rw [e, h.den])

structure Rc where
  o : Oper
  S : St
  ts1 : List SV
  v : SV
  sk : Bool
  ev : Ev
  hpr : Hp
  nx : St

def Src (ops : Array Oper) (rc : Rc) (i : Nat) : Prop :=
  (rc.ev.n ≤ i ∧ i < rc.ev.n') ∨ (∃ t ∈ namesOf ops rc.o, i ∈ idsV (nth rc.S.ts t)) ∨ (∃ b, memN b rc.ev.fp = true ∧ i ∈ idsB (hget rc.S.hp b))

structure RcOk (G : Glob) (ops : Array Oper) (rc : Rc) : Prop where
  sim1 : ∀ t, Sim (nth rc.ts1 t) (nth rc.S.ts t)
  len1 : rc.ts1.length = rc.S.ts.length
  nts : rc.nx.ts = putDst rc.ts1 rc.o.dst rc.v
  ndf : rc.nx.df = rc.S.df
  en : rc.ev.n = rc.S.hp.length
  en' : rc.ev.n' = rc.nx.hp.length
  le : rc.ev.n ≤ rc.ev.n'
  fplt : ∀ b, memN b rc.ev.fp = true → b < rc.ev.n
  keep : ∀ b, b < rc.ev.n → (rc.ev.wr = true → memN b rc.ev.fp = false) → hget rc.nx.hp b = hget rc.S.hp b
  aft : rc.sk = false → ∀ b, (memN b rc.ev.fp = true ∨ rc.ev.n ≤ b) → hget rc.hpr b = hget rc.nx.hp b
  plen : rc.sk = false → rc.hpr.length = rc.ev.n'
  vids : ∀ i ∈ idsV rc.v, Src ops rc i
  bids : ∀ b c, (memN b rc.ev.fp = true ∨ rc.ev.n ≤ b) → hget rc.nx.hp b = some c → ∀ i ∈ idsB (some c), Src ops rc i
  skp : rc.sk = true → rc.v = .val undef ∧ rc.ev.n' = rc.ev.n ∧ rc.ev.wr = false ∧ ∀ η (tmps : Array Value), (∀ t ∈ namesOf ops rc.o, Agree η tmps[t]? (nth rc.S.ts t)) → Region.wanted rc.o (yielded ops tmps) = false
  go : rc.sk = false → ∀ η (a : Act), (∀ t ∈ namesOf ops rc.o, Agree η a.tmps[t]? (nth rc.S.ts t)) → Region.wanted rc.o (yielded ops a.tmps) = true ∧
    ∀ F, WideF F → ∀ w, HR G.w0 η (restrict rc.S.hp rc.ev.fp) w → ∀ (next : Act → World → Prop) (Q : Exit → Act → World → Prop),
      (∀ η' w', HR G.w0 η' rc.hpr w' → PO η (restrict rc.S.hp rc.ev.fp) w η' rc.hpr w' → next (a.put rc.o.dst (rc.v.den η')) w') → rc.o.wpIn F 0 G.P a w next Q

def Chain : St → List Rc → St → Prop
  | S, [], S' => S = S'
  | S, rc :: R, S' => rc.S = S ∧ Chain rc.nx R S'

theorem guard_wanted' {ops : Array Oper} {ts : List SV} {o : Oper} {η : Nat → Nat} {tmps : Array Value} (h : ∀ t ∈ namesOf ops o, Agree η tmps[t]? (nth ts t)) :
    (guardOf ops ts o = .yes → Region.wanted o (yielded ops tmps) = true) ∧
    (guardOf ops ts o = .no → Region.wanted o (yielded ops tmps) = false) ∧
    (∀ d b want, guardOf ops ts o = .ask d b want → nth ts d = .bool (.sym b) ∧ Region.wanted o (yielded ops tmps) = (b == want)) := by
  unfold guardOf Region.wanted
  cases hg : o.guard with
  | none => simp
  | some p =>
    obtain ⟨j, want⟩ := p
    simp only
    cases hj : ops.toList[j]? with
    | none =>
      have : yielded ops tmps j = none := by
        have h1' : ops[j]? = none := by rw [← Array.getElem?_toList]; exact hj
        simp [yielded, h1']
      simp [this]
    | some oj =>
      simp only
      cases hd : oj.dst with
      | none =>
        have : yielded ops tmps j = none := by
          have h1' : ops[j]? = some oj := by rw [← Array.getElem?_toList]; exact hj
          simp [yielded, h1', hd]
        simp [this]
      | some d =>
        simp only
        have hy := yielded_eq (tmps := tmps) hj hd
        have hmem : d ∈ namesOf ops o := by simp [namesOf, hg, hj, hd]
        have hag := h d hmem
        cases hv : nth ts d with
        | any => simp
        | bool b =>
          rw [hv] at hag
          have := hag.resolve_left (by simp)
          rw [this] at hy
          simp only [SV.den] at hy
          cases b with
          | lit b => cases b <;> cases want <;> simp [hy]
          | sym b => simp only [hy]; refine ⟨by simp, by simp, ?_⟩; rintro d' b' w' e; cases e; exact ⟨hv, by simp⟩
        | val v =>
          rw [hv] at hag
          have := hag.resolve_left (by simp)
          rw [this] at hy
          simp only [SV.den] at hy
          cases v <;> simp_all
        | int k n => rw [hv] at hag; have := hag.resolve_left (by simp); rw [this] at hy; simp only [SV.den] at hy; simp [hy]
        | str k => rw [hv] at hag; have := hag.resolve_left (by simp); rw [this] at hy; simp only [SV.den] at hy; simp [hy]
        | ptr k n => rw [hv] at hag; have := hag.resolve_left (by simp); rw [this] at hy; simp only [SV.den] at hy; simp [hy]
        | slice k n m l => rw [hv] at hag; have := hag.resolve_left (by simp); rw [this] at hy; simp only [SV.den] at hy; simp [hy]
        | fsl k n m => rw [hv] at hag; have := hag.resolve_left (by simp); rw [this] at hy; simp only [SV.den] at hy; simp [hy]
        | fptr k n m l => rw [hv] at hag; have := hag.resolve_left (by simp); rw [this] at hy; simp only [SV.den] at hy; simp [hy]
        | bsl k n m l => rw [hv] at hag; have := hag.resolve_left (by simp); rw [this] at hy; simp only [SV.den] at hy; simp [hy]
        | bptr k n m l => rw [hv] at hag; have := hag.resolve_left (by simp); rw [this] at hy; simp only [SV.den] at hy; simp [hy]
        | fn k n => rw [hv] at hag; have := hag.resolve_left (by simp); rw [this] at hy; simp only [SV.den] at hy; simp [hy]
        | mth k n => rw [hv] at hag; have := hag.resolve_left (by simp); rw [this] at hy; simp only [SV.den] at hy; simp [hy]
        | yld k => rw [hv] at hag; have := hag.resolve_left (by simp); rw [this] at hy; simp only [SV.den] at hy; simp [hy]
        | agg k => rw [hv] at hag; have := hag.resolve_left (by simp); rw [this] at hy; simp only [SV.den] at hy; simp [hy]
        | tup k => rw [hv] at hag; have := hag.resolve_left (by simp); rw [this] at hy; simp only [SV.den] at hy; simp [hy]

theorem evo_agree {ops : Array Oper} {o : Oper} {ts : List SV} {η : Nat → Nat} {a : Act} (h : ∀ t ∈ namesOf ops o, Agree η a.tmps[t]? (nth ts t)) {x : Operand} (hx : x ∈ o.op.operands) (hn : (evo ts x).isAny = false) :
    a.eval x = (evo ts x).den η := by
  cases x with
  | tmp t =>
    have hm : t ∈ namesOf ops o := by
      simp only [namesOf, List.mem_append, List.mem_filterMap]
      exact .inl (.inr ⟨.tmp t, by simpa using hx, rfl⟩)
    simp only [evo] at hn ⊢
    have := (h t hm).resolve_left (fun e => by rw [e] at hn; cases hn)
    simp [Act.eval, Array.getD_eq_getD_getElem?, this]
  | const v => simp [evo, Act.eval, den_ofValA]
  | global g => simp [evo, Act.eval, SV.den]
  | func f => simp [evo, Act.eval, SV.den, SV.dens]

theorem ids_ofVal (v : Value) : idsV (ofVal v) = [] := by unfold ofVal; split <;> rfl
theorem ids_ofValA (v : Value) : idsV (ofValA v) = [] := by
  unfold ofValA; split
  · rename_i cs
    simp only [idsV]
    induction cs.toList with
    | nil => rfl
    | cons x r ih => simp [idsL, ids_ofVal, ih]
  · exact ids_ofVal _

theorem operand_ids {ops : Array Oper} {o : Oper} {ts : List SV} {i : Nat} (h : i ∈ idsL (o.op.operands.toList.map (evo ts))) : ∃ t ∈ namesOf ops o, i ∈ idsV (nth ts t) := by
  have key : ∀ (l : List Operand), (∀ x ∈ l, x ∈ o.op.operands.toList) → i ∈ idsL (l.map (evo ts)) → ∃ t ∈ namesOf ops o, i ∈ idsV (nth ts t) := by
    intro l
    induction l with
    | nil => intro _ h; simp [idsL] at h
    | cons x r ih =>
      intro hm h
      simp only [List.map_cons, idsL, List.mem_append] at h
      rcases h with h | h
      · cases x with
        | tmp t =>
          refine ⟨t, ?_, h⟩
          simp only [namesOf, List.mem_append, List.mem_filterMap]
          exact .inl (.inr ⟨.tmp t, hm _ (by simp), rfl⟩)
        | const v => simp only [evo, ids_ofValA] at h; cases h
        | global g => simp [evo, idsV] at h
        | func f => simp [evo, idsV, idsL] at h
      · exact ih (fun y hy => hm y (by simp [hy])) h
  exact key _ (fun x hx => hx) h

theorem okId_src {ops : Array Oper} {rc : Rc} {i : Nat} (hsim : ∀ t, Sim (nth rc.ts1 t) (nth rc.S.ts t)) (hn : rc.ev.n = rc.S.hp.length) (h : okId rc.ts1 rc.S.hp rc.o rc.ev.fp rc.ev.n' i = true) : Src ops rc i := by
  unfold okId at h
  split at h
  · rename_i h1 h2
    exact .inl ⟨by rw [hn]; exact Nat.le_of_ble_eq_true h1, by simpa [Nat.blt_eq] using h2⟩
  · split at h
    · rename_i hm
      obtain ⟨t, ht, hi⟩ := operand_ids (ops := ops) (memN_iff.1 hm)
      exact .inr (.inl ⟨t, ht, by rw [← (hsim t).ids]; exact hi⟩)
    · have := memN_iff.1 h
      rw [List.mem_flatMap] at this
      obtain ⟨b, hb, hi⟩ := this
      exact .inr (.inr ⟨b, memN_iff.2 hb, hi⟩)

theorem okHpFrom_get {p : Nat → Bool} {fp : List Nat} {lo : Nat} : ∀ {hp : Hp} {k : Nat}, okHpFrom p fp lo k hp = true → ∀ {i : Nat} {b : SBk}, hget hp i = some b → (memN (k + i) fp = true ∨ lo ≤ k + i) → b.allb p = true
  | [], k, _, i, b, hb, _ => by simp [hget] at hb
  | c :: r, k, h, 0, b, hb, hi => by
    simp only [hget] at hb; subst hb
    simp only [okHpFrom, Nat.add_zero] at h hi
    split at h
    · rename_i hc
      split at hc
      · rename_i h1 h2
        rcases hi with e | e
        · rw [h1] at e; cases e
        · have : Nat.ble lo k = true := (by rw [Nat.ble_eq]; exact e)
          rw [h2] at this; cases this
      · exact hc
    · cases h
  | c :: r, k, h, i + 1, b, hb, hi => by
    simp only [okHpFrom] at h
    split at h
    · exact okHpFrom_get (hp := r) (k := k + 1) h (by simpa [hget] using hb) (by rw [show k + 1 + i = k + (i + 1) by omega]; exact hi)
    · cases h

theorem guard_ask {ops : Array Oper} {ts : List SV} {o : Oper} {d : Nat} {b want : Bool} (h : guardOf ops ts o = .ask d b want) : nth ts d = .bool (.sym b) := by
  unfold guardOf at h
  split at h
  · cases h
  · split at h
    · cases h
    · split at h
      · cases h
      · split at h <;> first | (cases h; done) | skip
        · split at h <;> cases h
        · rename_i hh; cases h; exact hh
        · split at h <;> cases h

theorem sim_put_lit {ts : List SV} {d : Nat} {b want : Bool} (hd : nth ts d = .bool (.sym b)) (hb : b = want) (t : Nat) : Sim (nth (put ts d (.bool (.lit want))) t) (nth ts t) := by
  have hlt : d < ts.length := by
    rw [nth_eq] at hd
    rcases Nat.lt_or_ge d ts.length with h | h
    · exact h
    · simp [List.getElem?_eq_none h] at hd
  by_cases e : t = d
  · subst e
    have : nth (put ts t (.bool (.lit want))) t = .bool (.lit want) := by rw [nth_eq, put_eq]; simp [hlt]
    rw [this, hd]
    exact ⟨by simp, fun η => by simp [SV.den, hb], rfl⟩
  · have : nth (put ts d (.bool (.lit want))) t = nth ts t := by rw [nth_eq, nth_eq, put_eq, List.getElem?_set_ne (Ne.symm e)]
    rw [this]; exact .refl _

theorem exDraw_trace {G : Glob} {r : Rec} (hr : RecOk G r) {cx : Cx} {ops : Array Oper} : ∀ (rest : List Oper) (S : St) (evs : List Ev) (K : St → Prop), exDraw G r cx ops rest S evs K →
    ∃ R S', K S' ∧ R.map (·.o) = rest ∧ Chain S R S' ∧ (∀ rc ∈ R, RcOk G ops rc) ∧ chkReg ops (befL ops.toList []) [] [] ops.toList (evs.reverse ++ R.map (·.ev)) = true ∧ edgesOk 0 ops.toList = true
  | [], S, evs, K, h => by
    simp only [exDraw] at h
    split at h
    · rename_i h1 h2
      exact ⟨[], S, h, rfl, rfl, (fun rc hrc => by cases hrc), (by simpa using h1), h2⟩
    · cases h
  | o :: rest, S, evs, K, h => by
    rw [exDraw_cons] at h
    simp only [forceV_eq, putDstF_eq, forceHp_eq, putF_eq] at h
    have skip : ∀ ts1 : List SV, (∀ t, Sim (nth ts1 t) (nth S.ts t)) → ts1.length = S.ts.length → (∀ η (tmps : Array Value), (∀ t ∈ namesOf ops o, Agree η tmps[t]? (nth S.ts t)) → Region.wanted o (yielded ops tmps) = false) →
        exDraw G r cx ops rest ⟨putDst ts1 o.dst (.val undef), S.df, S.hp⟩ (⟨[], false, S.hp.length, S.hp.length⟩ :: evs) K →
        ∃ R S', K S' ∧ R.map (·.o) = o :: rest ∧ Chain S R S' ∧ (∀ rc ∈ R, RcOk G ops rc) ∧ chkReg ops (befL ops.toList []) [] [] ops.toList (evs.reverse ++ R.map (·.ev)) = true ∧ edgesOk 0 ops.toList = true := by
      intro ts1 hsim hlen hw h
      obtain ⟨R, S', hK, hm, hc, hok, hch, hedg⟩ := exDraw_trace hr rest _ _ K h
      let rc : Rc := ⟨o, S, ts1, .val undef, true, ⟨[], false, S.hp.length, S.hp.length⟩, S.hp, ⟨putDst ts1 o.dst (.val undef), S.df, S.hp⟩⟩
      refine ⟨rc :: R, S', hK, (by simp [rc, hm]), ⟨rfl, hc⟩, ?_, (by simpa [rc] using hch), hedg⟩
      intro q hq
      rcases List.mem_cons.1 hq with rfl | hq
      · refine ⟨hsim, hlen, rfl, rfl, rfl, rfl, Nat.le_refl _, (fun b hb => by simp [rc, memN] at hb), (fun b _ _ => rfl), (fun h => by cases h), (fun h => by cases h), (fun i hi => by simp [rc, idsV] at hi), (fun b c hb hc => ?_), (fun _ => ⟨rfl, rfl, rfl, hw⟩), (fun h => by cases h)⟩
        have := hget_some_lt hc
        simp only [rc, memN] at hb this
        rcases hb with e | e
        · cases e
        · omega
      · exact hok q hq
    have run : ∀ ts1 : List SV, (∀ t, Sim (nth ts1 t) (nth S.ts t)) → ts1.length = S.ts.length → (∀ η (tmps : Array Value), (∀ t ∈ namesOf ops o, Agree η tmps[t]? (nth S.ts t)) → Region.wanted o (yielded ops tmps) = true) →
        (match opsOk ts1 o with
          | false => False
          | true =>
            match isRead o with
            | true =>
              sRead G.P G.w0 ts1 (restrict S.hp (fpRead ts1 S.hp o)) o fun v nb =>
                match nb with
                | none => match v.allv (okId ts1 S.hp o (fpRead ts1 S.hp o) S.hp.length), allLt (fpRead ts1 S.hp o) S.hp.length with
                  | true, true => exDraw G r cx ops rest ⟨putDst ts1 o.dst v, S.df, S.hp⟩ (⟨fpRead ts1 S.hp o, false, S.hp.length, S.hp.length⟩ :: evs) K
                  | _, _ => False
                | some b => match v.allv (okId ts1 S.hp o (fpRead ts1 S.hp o) (S.hp.length + 1)), b.allb (okId ts1 S.hp o (fpRead ts1 S.hp o) S.hp.length), allLt (fpRead ts1 S.hp o) S.hp.length, okAlloc [] (restrict S.hp (fpRead ts1 S.hp o)) b with
                  | true, true, true, true => exDraw G r cx ops rest ⟨putDst ts1 o.dst v, S.df, S.hp ++ [some b]⟩ (⟨fpRead ts1 S.hp o, false, S.hp.length, S.hp.length + 1⟩ :: evs) K
                  | _, _, _, _ => False
            | false =>
              exEff G r cx o ts1 (restrict S.hp (fpEff ts1 S.hp o)) fun v hp' =>
                match v.allv (okId ts1 S.hp o (fpEff ts1 S.hp o) hp'.length), okHpFrom (okId ts1 S.hp o (fpEff ts1 S.hp o) hp'.length) (fpEff ts1 S.hp o) S.hp.length 0 hp', allLt (fpEff ts1 S.hp o) S.hp.length, Nat.ble S.hp.length hp'.length with
                | true, true, true, true => exDraw G r cx ops rest ⟨putDst ts1 o.dst v, S.df, mergeH S.hp hp' (fpEff ts1 S.hp o)⟩ (⟨fpEff ts1 S.hp o, true, S.hp.length, hp'.length⟩ :: evs) K
                | _, _, _, _ => False) →
        ∃ R S', K S' ∧ R.map (·.o) = o :: rest ∧ Chain S R S' ∧ (∀ rc ∈ R, RcOk G ops rc) ∧ chkReg ops (befL ops.toList []) [] [] ops.toList (evs.reverse ++ R.map (·.ev)) = true ∧ edgesOk 0 ops.toList = true := by
      intro ts1 hsim hlen hw h
      have ev1 : ∀ η (a : Act), opsOk ts1 o = true → (∀ t ∈ namesOf ops o, Agree η a.tmps[t]? (nth S.ts t)) → ∀ x ∈ o.op.operands, a.eval x = (evo ts1 x).den η := fun η a hoo ha x hx =>
        evo_agree (fun t ht => (hsim t).agree (ha t ht)) hx (opsOk_mem hoo hx)
      split at h
      · cases h
      · rename_i hoo
        split at h
        · obtain ⟨v, nb, hK, hva, hR⟩ := sRead_sound hoo h
          have hdd := isRead_defer (G := G) h
          cases nb with
          | none =>
            simp only at hK
            split at hK
            case h_2 => cases hK
            rename_i hids hfl
            obtain ⟨R, S', hK', hm, hc, hok, hch, hedg⟩ := exDraw_trace hr rest _ _ K hK
            let rc : Rc := ⟨o, S, ts1, v, false, ⟨fpRead ts1 S.hp o, false, S.hp.length, S.hp.length⟩, restrict S.hp (fpRead ts1 S.hp o), ⟨putDst ts1 o.dst v, S.df, S.hp⟩⟩
            refine ⟨rc :: R, S', hK', (by simp [rc, hm]), ⟨rfl, hc⟩, ?_, (by simpa [rc] using hch), hedg⟩
            intro q hq
            rcases List.mem_cons.1 hq with rfl | hq
            · refine ⟨hsim, hlen, rfl, rfl, rfl, rfl, Nat.le_refl _, (fun b hb => allLt_mem hfl b (memN_iff.1 hb)), (fun b _ _ => rfl), (fun _ b hb => ?_), (fun _ => by simp [rc]), (fun i hi => okId_src (rc := rc) hsim rfl ((allv_ids v).1 hids i hi)), (fun b c hb hc i hi => ?_), (fun h => by cases h), (fun _ η a ha => ⟨hw η a.tmps ha, fun F hF w hw0 next Q hn => ?_⟩)⟩
              · simp only [rc] at hb ⊢
                rw [hget_restrict]
                rcases hb with e | e
                · rw [e]
                · cases hmm : memN b (fpRead ts1 S.hp o) with
                  | true => rfl
                  | false =>
                    cases hgg : hget S.hp b with
                    | none => rfl
                    | some c => have := hget_some_lt hgg; omega
              · simp only [rc] at hb hc
                have hlt := hget_some_lt hc
                exact .inr (.inr ⟨b, hb.resolve_right (by omega), by rw [show hget rc.S.hp b = some c from hc]; exact hi⟩)
              · have hrun := hR η a.eval w hw0 (ev1 η a hoo ha)
                simp only at hrun
                refine ⟨about_ok hF, ?_⟩
                rw [Oper.semAt_eq _ _ _ hdd, hrun, Oper.uponIn_value]
                exact hn η w hw0 (PO.refl _ _ _)
            · exact hok q hq
          | some b =>
            simp only at hK
            split at hK
            case h_2 => cases hK
            rename_i hids hbids hfl hal
            obtain ⟨R, S', hK', hm, hc, hok, hch, hedg⟩ := exDraw_trace hr rest _ _ K hK
            let rc : Rc := ⟨o, S, ts1, v, false, ⟨fpRead ts1 S.hp o, false, S.hp.length, S.hp.length + 1⟩, restrict S.hp (fpRead ts1 S.hp o) ++ [some b], ⟨putDst ts1 o.dst v, S.df, S.hp ++ [some b]⟩⟩
            refine ⟨rc :: R, S', hK', (by simp [rc, hm]), ⟨rfl, hc⟩, ?_, (by simpa [rc] using hch), hedg⟩
            intro q hq
            rcases List.mem_cons.1 hq with rfl | hq
            · refine ⟨hsim, hlen, rfl, rfl, rfl, (by simp [rc]), (by simp [rc]), (fun b hb => allLt_mem hfl b (memN_iff.1 hb)), (fun b' hb' _ => ?_), (fun _ b' hb' => ?_), (fun _ => by simp [rc]), (fun i hi => okId_src (rc := rc) hsim rfl ((allv_ids v).1 hids i hi)), (fun b' c hb' hc i hi => ?_), (fun h => by cases h), (fun _ η a ha => ⟨hw η a.tmps ha, fun F hF w hw0 next Q hn => ?_⟩)⟩
              · simp only [rc] at hb' ⊢
                rw [hget_append, if_pos hb']
              · simp only [rc] at hb' ⊢
                rw [hget_append, hget_append, restrict_length]
                split
                · rename_i hlt
                  rw [hget_restrict, hb'.resolve_right (by omega)]
                · rfl
              · simp only [rc] at hb' hc
                rw [hget_append] at hc
                split at hc
                · rename_i hlt
                  exact .inr (.inr ⟨b', hb'.resolve_right (by omega), by rw [show hget rc.S.hp b' = some c from hc]; exact hi⟩)
                · have hcb : c = b := by
                    have hl := hget_some_lt hc
                    simp at hl
                    rw [hl] at hc
                    simp [hget] at hc; exact hc.symm
                  subst hcb
                  have hx := (allb_ids c).1 hbids i hi
                  refine okId_src (rc := rc) hsim rfl ?_
                  simp only [rc]
                  unfold okId at hx ⊢
                  split at hx
                  · rename_i h1 h2
                    have h1 := Nat.le_of_ble_eq_true h1
                    have h2 : i < S.hp.length := by simpa [Nat.blt_eq] using h2
                    omega
                  · split
                    · rfl
                    · exact hx
              · obtain ⟨obj, hb, hrun⟩ := hR η a.eval w hw0 (ev1 η a hoo ha)
                refine ⟨about_ok hF, ?_⟩
                rw [Oper.semAt_eq _ _ _ hdd, hrun, Oper.uponIn_value]
                obtain ⟨k1, k2, k3⟩ := okAlloc_eq hal
                have hlt : ∀ i, ltb (restrict S.hp (fpRead ts1 S.hp o)).length i = true → upd η (restrict S.hp (fpRead ts1 S.hp o)).length w.heap.size i = η i := fun i hi => upd_lt η (ltb_iff.1 hi)
                obtain ⟨m1, m2⟩ := move_alloc hw0 k1 (b := b) (o := obj) (hb.congr hlt k3)
                exact hn _ _ m1 m2
            · exact hok q hq
        · obtain ⟨v, hp', hK, hE⟩ := exEff_sound hr hoo h
          split at hK
          case h_2 => cases hK
          rename_i hids hbids hfl hlen2
          obtain ⟨R, S', hK', hm, hc, hok, hch, hedg⟩ := exDraw_trace hr rest _ _ K hK
          have hle : S.hp.length ≤ hp'.length := Nat.le_of_ble_eq_true hlen2
          let rc : Rc := ⟨o, S, ts1, v, false, ⟨fpEff ts1 S.hp o, true, S.hp.length, hp'.length⟩, hp', ⟨putDst ts1 o.dst v, S.df, mergeH S.hp hp' (fpEff ts1 S.hp o)⟩⟩
          refine ⟨rc :: R, S', hK', (by simp [rc, hm]), ⟨rfl, hc⟩, ?_, (by simpa [rc] using hch), hedg⟩
          intro q hq
          rcases List.mem_cons.1 hq with rfl | hq
          · refine ⟨hsim, hlen, rfl, rfl, rfl, (by simp [rc, merge_length hle]), hle, (fun b hb => allLt_mem hfl b (memN_iff.1 hb)), (fun b' hb' hwr => ?_), (fun _ b' hb' => ?_), (fun _ => rfl), (fun i hi => okId_src (rc := rc) hsim rfl ((allv_ids v).1 hids i hi)), (fun b' c hb' hc i hi => ?_), (fun h => by cases h), (fun _ η a ha => ⟨hw η a.tmps ha, fun F hF w hw0 next Q hn => ?_⟩)⟩
            · simp only [rc] at hb' hwr ⊢
              rw [hget_merge hle, if_pos ⟨hb', hwr trivial⟩]
            · simp only [rc] at hb' ⊢
              rw [hget_merge hle, if_neg]
              rintro ⟨h1, h2⟩
              rcases hb' with e | e
              · rw [h2] at e; cases e
              · omega
            · simp only [rc] at hb' hc
              rw [hget_merge hle, if_neg (by
                rintro ⟨h1, h2⟩
                rcases hb' with e | e
                · rw [h2] at e; cases e
                · omega)] at hc
              have := okHpFrom_get (k := 0) hbids hc (by simpa using hb')
              exact okId_src (rc := rc) hsim rfl ((allb_ids c).1 this i hi)
            · exact hE F hF η a w hw0 (ev1 η a hoo ha) next Q hn
          · exact hok q hq
    cases hg : guardOf ops S.ts o with
    | yes => rw [hg] at h; exact run S.ts (fun t => .refl _) rfl (fun η tmps ha => (guard_wanted' ha).1 hg) h
    | no => rw [hg] at h; exact skip S.ts (fun t => .refl _) rfl (fun η tmps ha => (guard_wanted' ha).2.1 hg) h
    | ask d b want =>
      rw [hg] at h
      have hd : nth S.ts d = .bool (.sym b) := guard_ask hg
      by_cases hb : b = want
      · exact run _ (sim_put_lit hd hb) (by simp) (fun η tmps ha => by rw [((guard_wanted' ha).2.2 d b want hg).2, hb]; cases want <;> rfl) (h.1 hb)
      · have hb' : b = !want := by clear h; cases b <;> cases want <;> first | rfl | exact absurd rfl hb
        exact skip _ (sim_put_lit hd hb') (by simp) (fun η tmps ha => by rw [((guard_wanted' ha).2.2 d b want hg).2, hb']; cases want <;> rfl) (h.2 hb')
    | bad => rw [hg] at h; exact h.elim

end Go.Sx
