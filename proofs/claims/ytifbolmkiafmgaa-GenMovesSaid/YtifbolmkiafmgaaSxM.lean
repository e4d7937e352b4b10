import Derived.Test.YtifbolmkiafmgaaSxK
set_option linter.unusedSimpArgs false
set_option linter.unusedVariables false
namespace Go.Sx
open Go.RowKit (Below)

def cur {α : Type} (touch : Nat → Bool) (val : Nat → α) (init : α) (D : Nat → Bool) : Nat → α
  | 0 => init
  | m + 1 => if D m = true ∧ touch m = true then val m else cur touch val init D m

theorem cur_congr {α : Type} {touch : Nat → Bool} {val : Nat → α} {init : α} {D D' : Nat → Bool} : ∀ {m : Nat}, (∀ j, j < m → touch j = true → D j = D' j) → cur touch val init D m = cur touch val init D' m
  | 0, _ => rfl
  | m + 1, h => by
    simp only [cur]
    rw [cur_congr (m := m) fun j hj ht => h j (by omega) ht]
    by_cases ht : touch m = true
    · rw [h m (by omega) ht]
    · simp [ht]

theorem cur_last {α : Type} {touch : Nat → Bool} {val : Nat → α} {init : α} {D : Nat → Bool} {k : Nat} (hD : D k = true) (ht : touch k = true) : ∀ {m : Nat}, k < m →
    (∀ j, k < j → j < m → touch j = true → D j = false) → cur touch val init D m = val k
  | 0, h, _ => by omega
  | m + 1, h, hl => by
    simp only [cur]
    by_cases e : k = m
    · subst e; simp [hD, ht]
    · rw [if_neg, cur_last hD ht (m := m) (by omega) fun j h1 h2 => hl j h1 (by omega)]
      rintro ⟨h1, h2⟩
      rw [hl m (by omega) (by omega) h2] at h1; cases h1

theorem cur_text {α : Type} {touch : Nat → Bool} {val : Nat → α} {init : α} {ρ : α → α → Prop} {x : Nat → α} {N : Nat} (hr : ∀ a, ρ a a) (ht : ∀ a b c, ρ a b → ρ b c → ρ a c) (h0 : init = x 0)
    (h1 : ∀ j, j < N → touch j = true → ρ (val j) (x (j + 1))) (h2 : ∀ j, j < N → touch j = false → ρ (x j) (x (j + 1))) {k : Nat} (hk : k ≤ N) : ρ (cur touch val init (fun j => decide (j < k)) N) (x k) := by
  have a1 : ∀ m, m ≤ N → ρ (cur touch val init (fun _ => true) m) (x m) := by
    intro m
    induction m with
    | zero => intro _; simp only [cur]; rw [h0]; exact hr _
    | succ m ih =>
      intro hm
      simp only [cur]
      by_cases e : touch m = true
      · rw [if_pos ⟨trivial, e⟩]; exact h1 m (by omega) e
      · rw [if_neg (by simp [e])]; exact ht _ _ _ (ih (by omega)) (h2 m (by omega) (by simpa using e))
  have a2 : ∀ m, k ≤ m → cur touch val init (fun j => decide (j < k)) m = cur touch val init (fun _ => true) k := by
    intro m hm
    induction m with
    | zero =>
      have : k = 0 := by omega
      subst this; rfl
    | succ m ih =>
      by_cases e : k = m + 1
      · subst e; exact cur_congr fun j hj _ => by simp [hj]
      · simp only [cur]
        rw [if_neg (by simp; omega)]; exact ih (by omega)
  rw [a2 N hk]; exact a1 k hk

def Tgt (ops : Array Oper) (D : Nat → Bool) (m : Nat) : Prop := ∀ o, ops[m]? = some o → ∀ e ∈ o.after.toList, Region.binds .any e = true → D e.on = true
def Closed (ops : Array Oper) (D : Nat → Bool) : Prop := ∀ m, D m = true → Tgt ops D m

theorem maskE_bit {i : Nat} {acc : List Nat} : ∀ {es : List Edge}, Nat.testBit (maskE es acc) i = true → ∃ e ∈ es, Region.binds .any e = true ∧ (i = e.on ∨ Nat.testBit (acc.getD e.on 0) i = true)
  | [], h => by simp [maskE] at h
  | e :: r, h => by
    simp only [maskE] at h
    split at h
    · rename_i hb
      rw [Nat.testBit_or, Nat.testBit_or] at h
      simp only [Bool.or_eq_true, Nat.testBit_two_pow, decide_eq_true_eq] at h
      rcases h with (h | h) | h
      · exact ⟨e, by simp, hb, .inl h.symm⟩
      · exact ⟨e, by simp, hb, .inr h⟩
      · obtain ⟨e', h1, h2⟩ := maskE_bit h
        exact ⟨e', by simp [h1], h2⟩
    · obtain ⟨e', h1, h2⟩ := maskE_bit h
      exact ⟨e', by simp [h1], h2⟩

theorem befL_bit {ops : Array Oper} {D : Nat → Bool} (hD : Closed ops D) : ∀ (os : List Oper) (acc : List Nat), ops.toList.drop acc.length = os → (∀ m i, Nat.testBit (acc.getD m 0) i = true → Tgt ops D m → D i = true) →
    ∀ m i, Nat.testBit ((befL os acc).getD m 0) i = true → Tgt ops D m → D i = true
  | [], acc, _, h => h
  | o :: os, acc, hd, h => by
    simp only [befL]
    have ho : ops[acc.length]? = some o := by
      rw [← Array.getElem?_toList]
      have := congrArg (fun l => l[0]?) hd
      simpa using this
    refine befL_bit hD os _ ?_ ?_
    · rw [List.length_append, ← List.drop_drop, hd]; rfl
    · intro m i hb ht
      rw [List.getD_eq_getElem?_getD] at hb
      by_cases e : m < acc.length
      · rw [List.getElem?_append_left e, ← List.getD_eq_getElem?_getD] at hb
        exact h m i hb ht
      · by_cases e2 : m = acc.length
        · subst e2
          simp at hb
          obtain ⟨e', h1, h2, h3⟩ := maskE_bit hb
          have hx := ht o ho e' (by simpa using h1) h2
          rcases h3 with rfl | h3
          · exact hx
          · exact h _ _ h3 (hD _ hx)
        · rw [List.getElem?_eq_none (by simp; omega)] at hb
          simp at hb

theorem chkRow_get {ops : Array Oper} {bj : Nat} {oj : Oper} {ej : Ev} : ∀ {os : List Oper} {es : List Ev} {i0 : Nat}, chkRow ops bj oj ej i0 os es = true → ∀ {i : Nat} {oi : Oper} {ei : Ev}, os[i]? = some oi → es[i]? = some ei →
    Nat.testBit bj (i0 + i) = true ∨ apartB ops oi oj ei ej = true
  | [], _, _, _, i, oi, ei, h1, _ => by simp at h1
  | _ :: _, [], _, _, i, oi, ei, _, h2 => by simp at h2
  | o :: os, e :: es, i0, h, i, oi, ei, h1, h2 => by
    simp only [chkRow] at h
    have both : (Nat.testBit bj i0 = true ∨ apartB ops o oj e ej = true) ∧ chkRow ops bj oj ej (i0 + 1) os es = true := by
      split at h
      · exact ⟨.inl (by assumption), h⟩
      · split at h
        · exact ⟨.inr (by assumption), h⟩
        · cases h
    cases i with
    | zero => simp at h1 h2; subst h1; subst h2; simpa using both.1
    | succ i =>
      have := chkRow_get both.2 (i := i) (oi := oi) (ei := ei) (by simpa using h1) (by simpa using h2)
      rwa [show i0 + 1 + i = i0 + (i + 1) by omega] at this

theorem chkReg_get {ops : Array Oper} : ∀ {os : List Oper} {es : List Ev} {bs : List Nat} {done : List Oper} {devs : List Ev}, chkReg ops bs done devs os es = true → done.length = devs.length →
    ∀ {j : Nat} {oj : Oper} {ej : Ev}, os[j]? = some oj → es[j]? = some ej → ∀ {i : Nat} {oi : Oper} {ei : Ev}, i < done.length + j → (done ++ os)[i]? = some oi → (devs ++ es)[i]? = some ei →
    Nat.testBit (bs.getD j 0) i = true ∨ apartB ops oi oj ei ej = true
  | [], _, _, _, _, _, _, j, oj, ej, h1, _, i, oi, ei, _, _, _ => by simp at h1
  | _ :: _, [], _, _, _, _, _, j, oj, ej, _, h2, i, oi, ei, _, _, _ => by simp at h2
  | o :: os, e :: es, bs, done, devs, h, hl, j, oj, ej, h1, h2, i, oi, ei, hi, h3, h4 => by
    simp only [chkReg] at h
    split at h
    · rename_i hrow
      cases j with
      | zero =>
        simp at h1 h2; subst h1; subst h2
        rw [List.getElem?_append_left (by omega)] at h3 h4
        have := chkRow_get hrow h3 h4
        cases bs <;> simpa using this
      | succ j =>
        have := chkReg_get h (by simp [hl]) (j := j) (oj := oj) (ej := ej) (by simpa using h1) (by simpa using h2) (i := i) (oi := oi) (ei := ei) (by simp; omega) (by simpa using h3) (by simpa using h4)
        cases bs <;> simpa using this
    · cases h

theorem edgesLt_mem {j : Nat} : ∀ {es : List Edge}, edgesLt j es = true → ∀ e ∈ es, Region.binds .any e = true → e.on < j
  | [], _, e, he, _ => by cases he
  | x :: r, h, e, he, hb => by
    simp only [edgesLt] at h
    have both : (Region.binds .any x = true → x.on < j) ∧ edgesLt j r = true := by
      split at h
      · cases h
      · rename_i h1
        refine ⟨fun hx => ?_, h⟩
        cases hh : Nat.blt x.on j with
        | true => simpa [Nat.blt_eq] using hh
        | false => exact (h1 hx hh).elim
    rcases List.mem_cons.1 he with rfl | he
    · exact both.1 hb
    · exact edgesLt_mem both.2 e he hb
theorem edgesOk_get : ∀ {os : List Oper} {k : Nat}, edgesOk k os = true → ∀ {j : Nat} {o : Oper}, os[j]? = some o → ∀ e ∈ o.after.toList, Region.binds .any e = true → e.on < k + j
  | [], k, _, j, o, h1 => by simp at h1
  | x :: os, k, h, j, o, h1 => by
    simp only [edgesOk] at h
    split at h
    · rename_i hx
      cases j with
      | zero => simp at h1; subst h1; simpa using edgesLt_mem hx
      | succ j =>
        have := edgesOk_get h (j := j) (o := o) (by simpa using h1)
        rwa [show k + 1 + j = k + (j + 1) by omega] at this
    · cases h

theorem disj_mem {l m : List Nat} (h : disj l m = true) : ∀ x ∈ l, x ∉ m := by
  induction l with
  | nil => intro x hx; cases hx
  | cons y r ih =>
    simp only [disj] at h
    split at h
    · cases h
    · rename_i hy
      intro x hx
      rcases List.mem_cons.1 hx with rfl | hx
      · exact memN_false.1 hy
      · exact ih h x hx
theorem outOf_mem {n n' : Nat} {l : List Nat} (h : outOf n n' l = true) : ∀ x ∈ l, ¬ (n ≤ x ∧ x < n') := by
  induction l with
  | nil => intro x hx; cases hx
  | cons y r ih =>
    simp only [outOf] at h
    split at h
    · cases h
    · rename_i hy
      intro x hx
      rcases List.mem_cons.1 hx with rfl | hx
      · rintro ⟨h1, h2⟩
        exact hy (by rw [Nat.ble_eq]; exact h1) (by rw [Nat.blt_eq]; exact h2)
      · exact ih h x hx

theorem apartB_eq {ops : Array Oper} {oi oj : Oper} {ei ej : Ev} (h : apartB ops oi oj ei ej = true) :
    (∀ t ∈ dstL oi, t ∉ namesOf ops oj) ∧ (∀ t ∈ dstL oj, t ∉ namesOf ops oi) ∧ (∀ b, memN b ej.fp = true → ¬ (ei.n ≤ b ∧ b < ei.n')) ∧
    ((ei.wr = true ∨ ej.wr = true) → ∀ b, memN b ei.fp = true → memN b ej.fp = true → False) := by
  unfold apartB at h
  split at h
  · rename_i h1 h2 h3
    refine ⟨disj_mem h1, disj_mem h2, fun b hb => outOf_mem h3 b (memN_iff.1 hb), fun hw b hb hb' => ?_⟩
    split at h
    · rename_i w1 w2
      rcases hw with e | e
      · rw [w1] at e; cases e
      · rw [w2] at e; cases e
    · exact disj_mem h b (memN_iff.1 hb) (memN_iff.1 hb')
  · cases h

theorem local_step {w0 : World} {η0 : Nat → Nat} {f0 : Nat → Option SBk} {n0 M : Nat} {w00 : World} {η : Nat → Nat} {f : Nat → Option SBk} {w : World} (H : HRel w0 η f w) (P0 : Post η0 f0 n0 w00 η f M w)
    {A : Nat → Prop} {n n' : Nat} {η' : Nat → Nat} {g g' f' : Nat → Option SBk} {w' : World} (hn0 : n0 ≤ n) (hnn : n ≤ n')
    (hgA : ∀ i, A i → g i = f i) (hgB : ∀ i, ¬ A i → g i = none) (hA : ∀ i, A i → i < n)
    (H' : HRel w0 η' g' w') (P : Post η g n w η' g' n' w')
    (hfA : ∀ i, (A i ∨ (n ≤ i ∧ i < n')) → f' i = g' i) (hfB : ∀ i, ¬ (A i ∨ (n ≤ i ∧ i < n')) → f' i = f i) {η'' : Nat → Nat}
    (e1 : ∀ i, n ≤ i ∧ i < n' → η'' i = η' i) (e2 : ∀ i, ¬ (n ≤ i ∧ i < n') → η'' i = η i)
    (hids' : ∀ i b, (A i ∨ (n ≤ i ∧ i < n')) → g' i = some b → ∀ j ∈ idsB (some b), η'' j = η' j)
    (hids : ∀ i b, f i = some b → ∀ j ∈ idsB (some b), η'' j = η j) :
    HRel w0 η'' f' w' ∧ Post η0 f0 n0 w00 η'' f' M w' := by
  -- here
  have here : ∀ i b, (A i ∨ (n ≤ i ∧ i < n')) → f' i = some b → g' i = some b ∧ η'' i = η' i := by
    intro i b hi hb
    rw [hfA i hi] at hb
    refine ⟨hb, ?_⟩
    rcases hi with h | h
    · rw [e2 i (by have := hA i h; omega), P.ext i (hA i h)]
    · exact e1 i h
  have old : ∀ i b, A i → g' i = some b → ∃ b0, f i = some b0 ∧ η' i = η i := by
    intro i b hi hb
    obtain ⟨b0, h0⟩ := P.dom i b hb (hA i hi)
    exact ⟨b0, by rw [← hgA i hi]; exact h0, P.ext i (hA i hi)⟩
  have gsome : ∀ i b, g i = some b → A i ∧ f i = some b := by
    intro i b hb
    by_cases h : A i
    · exact ⟨h, by rw [← hgA i h]; exact hb⟩
    · rw [hgB i h] at hb; cases hb
  have there : ∀ i b, ¬ (A i ∨ (n ≤ i ∧ i < n')) → f' i = some b → f i = some b ∧ η'' i = η i := by
    intro i b hi hb
    rw [hfB i hi] at hb
    exact ⟨hb, e2 i fun h => hi (.inr h)⟩
  refine ⟨⟨H'.base, fun i b hb => ?_, fun i b hb => ?_, fun i j bi bj hi hj e => ?_⟩, ⟨fun i hi => ?_, P0.len, fun i b hb hi => ?_, fun i b hb hi => ?_, P.os.trans P0.os, P.tape.trans P0.tape, P.output.trans P0.output, Nat.le_trans P0.grow P.grow, fun r hr hn => ?_⟩⟩
  · by_cases h : A i ∨ (n ≤ i ∧ i < n')
    · obtain ⟨h1, h2⟩ := here i b h hb
      rw [h2]; exact H'.hi i b h1
    · obtain ⟨h1, h2⟩ := there i b h hb
      rw [h2]; exact H.hi i b h1
  · by_cases h : A i ∨ (n ≤ i ∧ i < n')
    · obtain ⟨h1, h2⟩ := here i b h hb
      obtain ⟨o, ho, hr⟩ := H'.cell i b h1
      exact ⟨o, by rw [h2]; exact ho, brel_ids (hids' i b h h1) hr⟩
    · obtain ⟨h1, h2⟩ := there i b h hb
      obtain ⟨o, ho, hr⟩ := H.cell i b h1
      refine ⟨o, ?_, brel_ids (hids i b h1) hr⟩
      rw [h2, P.oth _ (H.lt h1) fun k c hk => ?_]
      · exact ho
      · obtain ⟨k1, k2⟩ := gsome k c hk
        intro e
        have := H.inj k i c b k2 h1 e
        subst this
        exact h (.inl k1)
  · have cross : ∀ i j bi bj, (A i ∨ (n ≤ i ∧ i < n')) → ¬ (A j ∨ (n ≤ j ∧ j < n')) → f' i = some bi → f' j = some bj → η'' i = η'' j → False := by
      intro i j bi bj h k hi hj e
      obtain ⟨h1, h2⟩ := here i bi h hi
      obtain ⟨k1, k2⟩ := there j bj k hj
      rw [h2, k2] at e
      rcases h with h | h
      · obtain ⟨b0, g1, g2⟩ := old i bi h h1
        rw [g2] at e
        have := H.inj i j b0 bj g1 k1 e
        subst this
        exact k (.inl h)
      · rcases P.fresh i bi h1 h.1 with h5 | ⟨k', b', hk', _, e'⟩
        · have := H.lt k1
          omega
        · obtain ⟨g1, g2⟩ := gsome k' b' hk'
          rw [e'] at e
          have := H.inj k' j b' bj g2 k1 e
          subst this
          exact k (.inl g1)
    by_cases h : A i ∨ (n ≤ i ∧ i < n') <;> by_cases k : A j ∨ (n ≤ j ∧ j < n')
    · obtain ⟨h1, h2⟩ := here i bi h hi
      obtain ⟨k1, k2⟩ := here j bj k hj
      rw [h2, k2] at e
      exact H'.inj i j bi bj h1 k1 e
    · exact (cross i j bi bj h k hi hj e).elim
    · exact (cross j i bj bi k h hj hi e.symm).elim
    · obtain ⟨h1, h2⟩ := there i bi h hi
      obtain ⟨k1, k2⟩ := there j bj k hj
      rw [h2, k2] at e
      exact H.inj i j bi bj h1 k1 e
  · rw [e2 i (by omega)]; exact P0.ext i hi
  · by_cases h : A i ∨ (n ≤ i ∧ i < n')
    · obtain ⟨h1, h2⟩ := here i b h hb
      rcases h with h | h
      · obtain ⟨b0, g1, _⟩ := old i b h h1
        exact P0.dom i b0 g1 hi
      · omega
    · exact P0.dom i b (there i b h hb).1 hi
  · by_cases h : A i ∨ (n ≤ i ∧ i < n')
    · obtain ⟨h1, h2⟩ := here i b h hb
      rw [h2]
      rcases h with h | h
      · obtain ⟨b0, g1, g2⟩ := old i b h h1
        rw [g2]; exact P0.fresh i b0 g1 hi
      · rcases P.fresh i b h1 h.1 with h5 | ⟨k', b', hk', _, e'⟩
        · exact .inl (Nat.le_trans P0.grow h5)
        · obtain ⟨g1, g2⟩ := gsome k' b' hk'
          rw [e']
          by_cases hk0 : k' < n0
          · obtain ⟨b0, h0⟩ := P0.dom k' b' g2 hk0
            exact .inr ⟨k', b0, h0, hk0, P0.ext k' hk0⟩
          · exact P0.fresh k' b' g2 (by omega)
    · obtain ⟨h1, h2⟩ := there i b h hb
      rw [h2]; exact P0.fresh i b h1 hi
  · rw [P.oth r (Nat.lt_of_lt_of_le hr P0.grow) fun k c hk => ?_, P0.oth r hr hn]
    obtain ⟨k1, k2⟩ := gsome k c hk
    by_cases hk0 : k < n0
    · obtain ⟨b0, h0⟩ := P0.dom k c k2 hk0
      rw [P0.ext k hk0]; exact hn k b0 h0
    · rcases P0.fresh k c k2 (by omega) with h5 | ⟨j, b', hj, _, e'⟩
      · omega
      · rw [e']; exact hn j b' hj

end Go.Sx
set_option linter.unusedSimpArgs false
set_option linter.unusedVariables false
namespace Go.Sx
open Go.RowKit (Below)

structure Txt (G : Glob) (ops : Array Oper) (N : Nat) (st : Nat → St) (rc : Nat → Rc) : Prop where
  opsk : ∀ k, k < N → ops[k]? = some (rc k).o
  size : ops.size = N
  S : ∀ k, k < N → (rc k).S = st k
  nx : ∀ k, k < N → (rc k).nx = st (k + 1)
  ok : ∀ k, k < N → RcOk G ops (rc k)
  pair : ∀ i j, i < j → j < N → (∀ D, Closed ops D → Tgt ops D j → D i = true) ∨ apartB ops (rc i).o (rc j).o (rc i).ev (rc j).ev = true
  edge : ∀ k, k < N → ∀ e ∈ (rc k).o.after.toList, Region.binds .any e = true → e.on < k
  h0 : okHp (ltb (st 0).hp.length) (st 0).hp = true
  t0 : SV.allvs (ltb (st 0).hp.length) (st 0).ts = true

section
variable {G : Glob} {ops : Array Oper} {N : Nat} {st : Nat → St} {rc : Nat → Rc}

theorem Txt.en (T : Txt G ops N st rc) {k : Nat} (hk : k < N) : (rc k).ev.n = (st k).hp.length := by rw [(T.ok k hk).en, T.S k hk]
theorem Txt.en' (T : Txt G ops N st rc) {k : Nat} (hk : k < N) : (rc k).ev.n' = (st (k + 1)).hp.length := by rw [(T.ok k hk).en', T.nx k hk]
theorem Txt.up1 (T : Txt G ops N st rc) {k : Nat} (hk : k < N) : (st k).hp.length ≤ (st (k + 1)).hp.length := by
  have := (T.ok k hk).le
  rw [T.en hk, T.en' hk] at this; exact this
theorem Txt.up (T : Txt G ops N st rc) {j k : Nat} (hjk : j ≤ k) (hk : k ≤ N) : (st j).hp.length ≤ (st k).hp.length := by
  induction k with
  | zero =>
    have : j = 0 := by omega
    subst this; exact Nat.le_refl _
  | succ k ih =>
    by_cases e : j = k + 1
    · subst e; exact Nat.le_refl _
    · exact Nat.le_trans (ih (by omega) (by omega)) (T.up1 (by omega))
theorem Txt.len (T : Txt G ops N st rc) {k : Nat} (hk : k ≤ N) : (st k).ts.length = (st 0).ts.length := by
  induction k with
  | zero => rfl
  | succ k ih =>
    have h := T.ok k (by omega)
    rw [← T.nx k (by omega), h.nts]
    have : (putDst (rc k).ts1 (rc k).o.dst (rc k).v).length = (rc k).ts1.length := by
      cases (rc k).o.dst <;> simp [putDst]
    rw [this, h.len1, T.S k (by omega)]
    exact ih (by omega)

theorem nth_putDst {ts : List SV} {dst : Option Tmp} {v : SV} {t : Nat} : nth (putDst ts dst v) t = if dst = some t ∧ t < ts.length then v else nth ts t := by
  cases dst with
  | none => simp [putDst]
  | some d =>
    simp only [putDst, nth_eq, put_eq, List.getElem?_set, Option.some.injEq]
    by_cases e : d = t
    · subst e
      by_cases h : d < ts.length
      · simp [h]
      · simp [h]
    · simp [e]

def touchT (rc : Nat → Rc) (L t j : Nat) : Bool := decide ((rc j).o.dst = some t ∧ t < L)
def touchB (rc : Nat → Rc) (b j : Nat) : Bool := decide (((rc j).ev.wr = true ∧ memN b (rc j).ev.fp = true) ∨ ((rc j).ev.n ≤ b ∧ b < (rc j).ev.n'))
theorem touchT_iff {L t j : Nat} : touchT rc L t j = true ↔ (rc j).o.dst = some t ∧ t < L := by simp [touchT]
theorem touchB_iff {b j : Nat} : touchB rc b j = true ↔ ((rc j).ev.wr = true ∧ memN b (rc j).ev.fp = true) ∨ ((rc j).ev.n ≤ b ∧ b < (rc j).ev.n') := by simp [touchB]

def curT (N : Nat) (st : Nat → St) (rc : Nat → Rc) (D : Nat → Bool) (t : Nat) : SV := cur (touchT rc (st 0).ts.length t) (fun j => (rc j).v) (nth (st 0).ts t) D N
def curB (N : Nat) (st : Nat → St) (rc : Nat → Rc) (D : Nat → Bool) (b : Nat) : Option SBk := cur (touchB rc b) (fun j => hget (st (j + 1)).hp b) (hget (st 0).hp b) D N
def U (N : Nat) (st : Nat → St) (rc : Nat → Rc) (D : Nat → Bool) (i : Nat) : Prop := i < (st 0).hp.length ∨ ∃ j, j < N ∧ D j = true ∧ (rc j).ev.n ≤ i ∧ i < (rc j).ev.n'

theorem Txt.textT (T : Txt G ops N st rc) {k : Nat} (hk : k ≤ N) (t : Nat) : Sim (curT N st rc (fun j => decide (j < k)) t) (nth (st k).ts t) := by
  refine cur_text (ρ := Sim) Sim.refl (fun _ _ _ => Sim.trans) (x := fun k => nth (st k).ts t) rfl (fun j hj ht => ?_) (fun j hj ht => ?_) hk
  · obtain ⟨h1, h2⟩ := touchT_iff.1 ht
    have h := T.ok j hj
    rw [← T.nx j hj, h.nts, nth_putDst, if_pos ⟨h1, by rw [h.len1, T.S j hj, T.len (Nat.le_of_lt hj)]; exact h2⟩]
    exact .refl _
  · have h := T.ok j hj
    rw [← T.nx j hj, h.nts, nth_putDst, if_neg (fun hh => by
      have : touchT rc (st 0).ts.length t j = true := touchT_iff.2 ⟨hh.1, by have := hh.2; rwa [h.len1, T.S j hj, T.len (Nat.le_of_lt hj)] at this⟩
      rw [ht] at this; cases this)]
    have := h.sim1 t
    rw [T.S j hj] at this
    exact ⟨this.any.symm, fun η => (this.den η).symm, this.ids.symm⟩

theorem Txt.textB (T : Txt G ops N st rc) {k : Nat} (hk : k ≤ N) (b : Nat) : curB N st rc (fun j => decide (j < k)) b = hget (st k).hp b := by
  refine cur_text (ρ := Eq) (fun _ => rfl) (fun _ _ _ => Eq.trans) (x := fun k => hget (st k).hp b) rfl (fun j hj ht => rfl) (fun j hj ht => ?_) hk
  have h := T.ok j hj
  have hno : ¬ (((rc j).ev.wr = true ∧ memN b (rc j).ev.fp = true) ∨ ((rc j).ev.n ≤ b ∧ b < (rc j).ev.n')) := fun hh => by
    rw [touchB_iff.2 hh] at ht; cases ht
  have keep := h.keep b
  by_cases hb : b < (rc j).ev.n
  · have := keep hb (fun hw => by
      cases hm : memN b (rc j).ev.fp with
      | false => rfl
      | true => exact (hno (.inl ⟨hw, hm⟩)).elim)
    rw [T.nx j hj, T.S j hj] at this
    exact this.symm
  · have h1 : hget (st j).hp b = none := by
      cases hg : hget (st j).hp b with
      | none => rfl
      | some c => have := hget_some_lt hg; rw [← T.en hj] at this; omega
    have h2 : hget (st (j + 1)).hp b = none := by
      cases hg : hget (st (j + 1)).hp b with
      | none => rfl
      | some c => have := hget_some_lt hg; rw [← T.en' hj] at this; exact (hno (.inr ⟨by omega, this⟩)).elim
    rw [h1, h2]

theorem mem_dst_names {o : Oper} {t : Nat} (h : o.dst = some t) : t ∈ dstL o ∧ t ∈ namesOf ops o := by simp [dstL, namesOf, h]

theorem Txt.ids (T : Txt G ops N st rc) : ∀ {k : Nat}, k ≤ N → (∀ t, ∀ i ∈ idsV (nth (st k).ts t), i < (st k).hp.length) ∧ (∀ b c, hget (st k).hp b = some c → ∀ i ∈ idsB (some c), i < (st k).hp.length) := by
  intro k
  induction k with
  | zero =>
    intro _
    refine ⟨fun t i hi => ?_, fun b c hb i hi => ?_⟩
    · have := (allvs_ids (st 0).ts).1 T.t0
      rw [nth_eq] at hi
      cases hg : (st 0).ts[t]? with
      | none => rw [hg] at hi; simp [idsV] at hi
      | some v =>
        rw [hg] at hi
        have hv := allvs_iff.1 T.t0 v (List.mem_of_getElem? hg)
        exact ltb_iff.1 ((allv_ids v).1 hv i (by simpa using hi))
    · exact ltb_iff.1 ((allb_ids c).1 (okHp_get T.h0 hb) i hi)
  | succ k ih =>
    intro hk
    obtain ⟨i1, i2⟩ := ih (by omega)
    have h := T.ok k (by omega)
    have up := T.up1 (k := k) (by omega)
    have src : ∀ i, Src ops (rc k) i → i < (st (k + 1)).hp.length := by
      rintro i (⟨_, h2⟩ | ⟨t, _, h2⟩ | ⟨b, _, h2⟩)
      · rwa [T.en' (by omega)] at h2
      · rw [T.S k (by omega)] at h2; exact Nat.lt_of_lt_of_le (i1 t i h2) up
      · rw [T.S k (by omega)] at h2
        cases hg : hget (st k).hp b with
        | none => rw [hg] at h2; simp [idsB] at h2
        | some c => rw [hg] at h2; exact Nat.lt_of_lt_of_le (i2 b c hg i h2) up
    refine ⟨fun t i hi => ?_, fun b c hb i hi => ?_⟩
    · rw [← T.nx k (by omega), h.nts, nth_putDst] at hi
      split at hi
      · exact src i (h.vids i hi)
      · rw [(h.sim1 t).ids, T.S k (by omega)] at hi
        exact Nat.lt_of_lt_of_le (i1 t i hi) up
    · by_cases hc : memN b (rc k).ev.fp = true ∨ (rc k).ev.n ≤ b
      · exact src i (h.bids b c hc (by rw [T.nx k (by omega)]; exact hb) i hi)
      · have hc1 : ¬ memN b (rc k).ev.fp = true := fun e => hc (.inl e)
        have hc2 : b < (rc k).ev.n := by
          rcases Nat.lt_or_ge b (rc k).ev.n with e | e
          · exact e
          · exact (hc (.inr e)).elim
        have := h.keep b hc2 (fun _ => by simpa using hc1)
        rw [T.nx k (by omega), T.S k (by omega)] at this
        rw [this] at hb
        exact Nat.lt_of_lt_of_le (i2 b c hb i hi) up

theorem Txt.readyT (T : Txt G ops N st rc) {D : Nat → Bool} (hD : Closed ops D) {k : Nat} (hk : k < N) (hT : Tgt ops D k) (hn : D k = false) {t : Nat} (ht : t ∈ namesOf ops (rc k).o) : Sim (curT N st rc D t) (nth (st k).ts t) := by
  have : curT N st rc D t = curT N st rc (fun j => decide (j < k)) t := by
    refine cur_congr fun j hj htj => ?_
    obtain ⟨h1, h2⟩ := touchT_iff.1 htj
    rcases Nat.lt_trichotomy j k with e | e | e
    · simp only [e, decide_true]
      rcases T.pair j k e hk with p | p
      · exact p D hD hT
      · exact absurd ht ((apartB_eq p).1 t (mem_dst_names (ops := ops) h1).1)
    · subst e; simp [hn]
    · have : ¬ j < k := by omega
      simp only [this, decide_false]
      cases hj' : D j with
      | false => rfl
      | true =>
        rcases T.pair k j e hj with p | p
        · rw [p D hD (hD j hj')] at hn; cases hn
        · exact absurd ht ((apartB_eq p).2.1 t (mem_dst_names (ops := ops) h1).1)
  rw [this]
  exact T.textT (Nat.le_of_lt hk) t

theorem Txt.readyB (T : Txt G ops N st rc) {D : Nat → Bool} (hD : Closed ops D) {k : Nat} (hk : k < N) (hT : Tgt ops D k) (hn : D k = false) {b : Nat} (hb : memN b (rc k).ev.fp = true) : curB N st rc D b = hget (st k).hp b := by
  have hbn := (T.ok k hk).fplt b hb
  rw [← T.textB (Nat.le_of_lt hk) b]
  refine cur_congr fun j hj htj => ?_
  rcases Nat.lt_trichotomy j k with e | e | e
  · simp only [e, decide_true]
    rcases T.pair j k e hk with p | p
    · exact p D hD hT
    · obtain ⟨_, _, p3, p4⟩ := apartB_eq p
      rcases touchB_iff.1 htj with ⟨h1, h2⟩ | h1
      · exact (p4 (.inl h1) b h2 hb).elim
      · exact (p3 b hb h1).elim
  · subst e; simp [hn]
  · have : ¬ j < k := by omega
    simp only [this, decide_false]
    cases hj' : D j with
    | false => rfl
    | true =>
      rcases T.pair k j e hj with p | p
      · rw [p D hD (hD j hj')] at hn; cases hn
      · obtain ⟨_, _, p3, p4⟩ := apartB_eq p
        rcases touchB_iff.1 htj with ⟨h1, h2⟩ | h1
        · exact (p4 (.inr h1) b hb h2).elim
        · have := T.up (j := k) (k := j) (by omega) (by omega)
          rw [T.en hj] at h1; rw [T.en hk] at hbn; omega

def addD (D : Nat → Bool) (k : Nat) : Nat → Bool := fun j => if j = k then true else D j

theorem Txt.lastT (T : Txt G ops N st rc) {D : Nat → Bool} (hD : Closed ops D) {k : Nat} (hk : k < N) (hn : D k = false) {t : Nat} (ht : (rc k).o.dst = some t) (hl : t < (st 0).ts.length) : curT N st rc (addD D k) t = (rc k).v := by
  refine cur_last (k := k) (by simp [addD]) (touchT_iff.2 ⟨ht, hl⟩) hk fun j h1 h2 h3 => ?_
  have : ¬ j = k := by omega
  simp only [addD, this, if_false]
  cases hj' : D j with
  | false => rfl
  | true =>
    rcases T.pair k j h1 h2 with p | p
    · rw [p D hD (hD j hj')] at hn; cases hn
    · exact absurd (mem_dst_names (ops := ops) (touchT_iff.1 h3).1).2 ((apartB_eq p).1 t (mem_dst_names (ops := ops) ht).1)
theorem sameT {D : Nat → Bool} {k : Nat} {t : Nat} (ht : ¬ ((rc k).o.dst = some t ∧ t < (st 0).ts.length)) : curT N st rc (addD D k) t = curT N st rc D t := by
  refine cur_congr fun j hj h => ?_
  by_cases e : j = k
  · subst e; exact (ht (touchT_iff.1 h)).elim
  · simp [addD, e]
theorem Txt.lastB (T : Txt G ops N st rc) {D : Nat → Bool} (hD : Closed ops D) {k : Nat} (hk : k < N) (hn : D k = false) {b : Nat} (hb : touchB rc b k = true) : curB N st rc (addD D k) b = hget (st (k + 1)).hp b := by
  refine cur_last (val := fun j => hget (st (j + 1)).hp b) (k := k) (by simp [addD]) hb hk fun j h1 h2 h3 => ?_
  have : ¬ j = k := by omega
  simp only [addD, this, if_false]
  cases hj' : D j with
  | false => rfl
  | true =>
    rcases T.pair k j h1 h2 with p | p
    · rw [p D hD (hD j hj')] at hn; cases hn
    · obtain ⟨_, _, p3, p4⟩ := apartB_eq p
      have u := T.up (j := k + 1) (k := j) (by omega) (by omega)
      rw [← T.en' hk, ← T.en h2] at u
      have := (T.ok k hk).le
      rcases touchB_iff.1 hb with ⟨q1, q2⟩ | q1 <;> rcases touchB_iff.1 h3 with ⟨r1, r2⟩ | r1
      · exact (p4 (.inl q1) b q2 r2).elim
      · have := (T.ok k hk).fplt b q2; omega
      · exact (p3 b r2 q1).elim
      · omega
theorem sameB {D : Nat → Bool} {k : Nat} {b : Nat} (hb : touchB rc b k = false) : curB N st rc (addD D k) b = curB N st rc D b := by
  refine cur_congr fun j hj h => ?_
  by_cases e : j = k
  · subst e; rw [h] at hb; cases hb
  · simp [addD, e]

theorem Txt.out (T : Txt G ops N st rc) {D : Nat → Bool} {k i : Nat} (hk : k < N) (hn : D k = false) (hU : U N st rc D i) : ¬ ((rc k).ev.n ≤ i ∧ i < (rc k).ev.n') := by
  rw [T.en hk, T.en' hk]
  rintro ⟨h1, h2⟩
  rcases hU with h | ⟨j, hj, hDj, h3, h4⟩
  · have := T.up (j := 0) (k := k) (by omega) (by omega); omega
  · rw [T.en hj] at h3; rw [T.en' hj] at h4
    rcases Nat.lt_trichotomy j k with e | e | e
    · have := T.up (j := j + 1) (k := k) (by omega) (by omega); omega
    · subst e; rw [hn] at hDj; cases hDj
    · have := T.up (j := k + 1) (k := j) (by omega) (by omega); omega

theorem U_add {D : Nat → Bool} {k i : Nat} (h : U N st rc D i) : U N st rc (addD D k) i := by
  rcases h with h | ⟨j, h1, h2, h3⟩
  · exact .inl h
  · exact .inr ⟨j, h1, by by_cases e : j = k <;> simp [addD, e, h2], h3⟩

structure Mid (G : Glob) (N : Nat) (st : Nat → St) (rc : Nat → Rc) (η0 : Nat → Nat) (a0 : Act) (w0 : World) (D : Nat → Bool) (η : Nat → Nat) (a : Act) (w : World) : Prop where
  hr : HRel G.w0 η (curB N st rc D) w
  ts : ∀ t, Agree η a.tmps[t]? (curT N st rc D t)
  sz : a.tmps.size = (st 0).ts.length
  df : a.defers = a0.defers
  po : Post η0 (hget (st 0).hp) (st 0).hp.length w0 η (curB N st rc D) (st N).hp.length w
  idT : ∀ t, ∀ i ∈ idsV (curT N st rc D t), U N st rc D i
  idB : ∀ b c, curB N st rc D b = some c → ∀ i ∈ idsB (some c), U N st rc D i

theorem agree_congr {η η' : Nat → Nat} {x : Option Value} {v : SV} (h : ∀ i ∈ idsV v, η' i = η i) (hx : Agree η x v) : Agree η' x v := by
  rcases hx with e | e
  · exact .inl e
  · exact .inr (by rw [e, den_ids h])

theorem put_get {a : Act} {dst : Option Tmp} {x : Value} {t : Nat} : (a.put dst x).tmps[t]? = if dst = some t ∧ t < a.tmps.size then some x else a.tmps[t]? := by
  cases dst with
  | none => simp [Act.put]
  | some d =>
    simp only [Act.put, Array.getElem?_setIfInBounds, Option.some.injEq]
    by_cases e : d = t
    · subst e
      by_cases h : d < a.tmps.size
      · simp [h]
      · simp [h]
    · simp [e]
theorem put_size {a : Act} {dst : Option Tmp} {x : Value} : (a.put dst x).tmps.size = a.tmps.size := by cases dst <;> simp [Act.put]

theorem Txt.src (T : Txt G ops N st rc) {D : Nat → Bool} (hD : Closed ops D) {k : Nat} (hk : k < N) (hT : Tgt ops D k) (hn : D k = false) {η0 a0 w0 η a w} (M : Mid G N st rc η0 a0 w0 D η a w) {i : Nat} (h : Src ops (rc k) i) : U N st rc (addD D k) i := by
  rcases h with h | ⟨t, h1, h2⟩ | ⟨b, h1, h2⟩
  · exact .inr ⟨k, hk, by simp [addD], h⟩
  · refine U_add (M.idT t i ?_)
    rw [(T.readyT hD hk hT hn h1).ids, ← T.S k hk]; exact h2
  · rw [T.S k hk, ← T.readyB hD hk hT hn h1] at h2
    cases hg : curB N st rc D b with
    | none => rw [hg] at h2; simp [idsB] at h2
    | some c => rw [hg] at h2; exact U_add (M.idB b c hg i h2)

theorem Txt.srcLt (T : Txt G ops N st rc) {k : Nat} (hk : k < N) {i : Nat} (h : Src ops (rc k) i) (hi : ¬ ((rc k).ev.n ≤ i ∧ i < (rc k).ev.n')) : i < (rc k).ev.n := by
  obtain ⟨i1, i2⟩ := T.ids (Nat.le_of_lt hk)
  rw [T.en hk]
  rcases h with h | ⟨t, h1, h2⟩ | ⟨b, h1, h2⟩
  · exact (hi h).elim
  · rw [T.S k hk] at h2; exact i1 t i h2
  · rw [T.S k hk] at h2
    cases hg : hget (st k).hp b with
    | none => rw [hg] at h2; simp [idsB] at h2
    | some c => rw [hg] at h2; exact i2 b c hg i h2

theorem Closed.add {D : Nat → Bool} (hD : Closed ops D) {k : Nat} (hT : Tgt ops D k) : Closed ops (addD D k) := by
  intro m hm o ho e he hb
  have : D e.on = true := by
    by_cases hmk : m = k
    · subst hmk; exact hT o ho e he hb
    · simp only [addD, hmk, if_false] at hm; exact hD m hm o ho e he hb
  simp [addD, this]

theorem Txt.skip (T : Txt G ops N st rc) {D : Nat → Bool} (hD : Closed ops D) {k : Nat} (hk : k < N) (hT : Tgt ops D k) (hn : D k = false) {η0 a0 w0 η a w} (M : Mid G N st rc η0 a0 w0 D η a w) (hs : (rc k).sk = true) :
    Mid G N st rc η0 a0 w0 (addD D k) η (a.put (rc k).o.dst undef) w := by
  obtain ⟨s1, s2, s3, _⟩ := (T.ok k hk).skp hs
  have hB : curB N st rc (addD D k) = curB N st rc D := by
    funext b
    refine sameB ?_
    cases h : touchB rc b k with
    | false => rfl
    | true =>
      rcases touchB_iff.1 h with ⟨h1, _⟩ | h1
      · rw [s3] at h1; cases h1
      · rw [s2] at h1; omega
  refine ⟨by rw [hB]; exact M.hr, fun t => ?_, by rw [put_size]; exact M.sz, by rw [put_defers]; exact M.df, by rw [hB]; exact M.po, fun t i hi => ?_, fun b c hb i hi => ?_⟩
  · rw [put_get]
    by_cases e : (rc k).o.dst = some t ∧ t < (st 0).ts.length
    · rw [if_pos (by rw [M.sz]; exact e), T.lastT hD hk hn e.1 e.2, s1]; exact .inr rfl
    · rw [if_neg (by rw [M.sz]; exact e), sameT e]; exact M.ts t
  · by_cases e : (rc k).o.dst = some t ∧ t < (st 0).ts.length
    · rw [T.lastT hD hk hn e.1 e.2, s1] at hi; simp [idsV] at hi
    · rw [sameT e] at hi; exact U_add (M.idT t i hi)
  · rw [hB] at hb; exact U_add (M.idB b c hb i hi)

theorem Txt.step (T : Txt G ops N st rc) {D : Nat → Bool} (hD : Closed ops D) {k : Nat} (hk : k < N) (hT : Tgt ops D k) (hn : D k = false) {η0 a0 w0 η a w} (M : Mid G N st rc η0 a0 w0 D η a w) (hs : (rc k).sk = false)
    {η' : Nat → Nat} {w' : World} (H' : HR G.w0 η' (rc k).hpr w') (P : PO η (restrict (rc k).S.hp (rc k).ev.fp) w η' (rc k).hpr w') :
    ∃ η'', Mid G N st rc η0 a0 w0 (addD D k) η'' (a.put (rc k).o.dst ((rc k).v.den η')) w' := by
  have ok := T.ok k hk
  let η'' : Nat → Nat := fun i => if (rc k).ev.n ≤ i ∧ i < (rc k).ev.n' then η' i else η i
  have e1 : ∀ i, (rc k).ev.n ≤ i ∧ i < (rc k).ev.n' → η'' i = η' i := fun i h => by simp only [η'', h, and_self, if_true]
  have e2 : ∀ i, ¬ ((rc k).ev.n ≤ i ∧ i < (rc k).ev.n') → η'' i = η i := fun i h => by simp only [η'', h, if_false]
  have hlen : (restrict (rc k).S.hp (rc k).ev.fp).length = (rc k).ev.n := by rw [restrict_length, ok.en]
  unfold PO at P
  rw [hlen, ok.plen hs] at P
  have esrc : ∀ i, Src ops (rc k) i → η'' i = η' i := fun i h => by
    by_cases hi : (rc k).ev.n ≤ i ∧ i < (rc k).ev.n'
    · exact e1 i hi
    · rw [e2 i hi]; exact (P.ext i (T.srcLt hk h hi)).symm
  have eU : ∀ i, U N st rc D i → η'' i = η i := fun i h => e2 i (T.out hk hn h)
  have hfA : ∀ b, (memN b (rc k).ev.fp = true ∨ ((rc k).ev.n ≤ b ∧ b < (rc k).ev.n')) → curB N st rc (addD D k) b = hget (rc k).hpr b := by
    intro b hb
    rw [ok.aft hs b (hb.imp id And.left)]
    cases ht : touchB rc b k with
    | true => rw [T.lastB hD hk hn ht, T.nx k hk]
    | false =>
      rw [sameB ht]
      rcases hb with hb | hb
      · have hw : (rc k).ev.wr = false := by
          cases hw : (rc k).ev.wr with
          | false => rfl
          | true => rw [touchB_iff.2 (.inl ⟨hw, hb⟩)] at ht; cases ht
        rw [ok.keep b (ok.fplt b hb) (fun h => by rw [hw] at h; cases h), T.readyB hD hk hT hn hb, T.S k hk]
      · rw [touchB_iff.2 (.inr hb)] at ht; cases ht
  have hfB : ∀ b, ¬ (memN b (rc k).ev.fp = true ∨ ((rc k).ev.n ≤ b ∧ b < (rc k).ev.n')) → curB N st rc (addD D k) b = curB N st rc D b := by
    intro b hb
    refine sameB ?_
    cases ht : touchB rc b k with
    | false => rfl
    | true =>
      rcases touchB_iff.1 ht with ⟨_, h⟩ | h
      · exact (hb (.inl h)).elim
      · exact (hb (.inr h)).elim
  have n0 : (st 0).hp.length ≤ (rc k).ev.n := by rw [T.en hk]; exact T.up (Nat.zero_le _) (Nat.le_of_lt hk)
  have hbid : ∀ i b, (memN i (rc k).ev.fp = true ∨ ((rc k).ev.n ≤ i ∧ i < (rc k).ev.n')) → hget (rc k).hpr i = some b → ∀ j ∈ idsB (some b), Src ops (rc k) j := by
    intro i b hi hb j hj
    refine ok.bids i b (hi.imp id And.left) ?_ j hj
    rw [← ok.aft hs i (hi.imp id And.left)]; exact hb
  obtain ⟨m1, m2⟩ := local_step (f' := curB N st rc (addD D k)) (η'' := η'') M.hr M.po (A := fun i => memN i (rc k).ev.fp = true) (n := (rc k).ev.n) (n' := (rc k).ev.n') n0 ok.le
    (fun i hi => by rw [hget_restrict, hi, T.readyB hD hk hT hn hi, T.S k hk])
    (fun i hi => by rw [hget_restrict, show memN i (rc k).ev.fp = false by simpa using hi])
    (fun i hi => ok.fplt i hi) H' P hfA hfB e1 e2
    (fun i b hi hb j hj => esrc j (hbid i b hi hb j hj))
    (fun i b hb j hj => eU j (M.idB i b hb j hj))
  refine ⟨η'', m1, fun t => ?_, by rw [put_size]; exact M.sz, by rw [put_defers]; exact M.df, m2, fun t i hi => ?_, fun b c hb i hi => ?_⟩
  · rw [put_get]
    by_cases e : (rc k).o.dst = some t ∧ t < (st 0).ts.length
    · rw [if_pos (by rw [M.sz]; exact e), T.lastT hD hk hn e.1 e.2]
      exact .inr (by rw [den_ids fun i hi => esrc i (ok.vids i hi)])
    · rw [if_neg (by rw [M.sz]; exact e), sameT e]
      exact agree_congr (fun i hi => eU i (M.idT t i hi)) (M.ts t)
  · by_cases e : (rc k).o.dst = some t ∧ t < (st 0).ts.length
    · rw [T.lastT hD hk hn e.1 e.2] at hi; exact T.src hD hk hT hn M (ok.vids i hi)
    · rw [sameT e] at hi; exact U_add (M.idT t i hi)
  · by_cases hh : memN b (rc k).ev.fp = true ∨ ((rc k).ev.n ≤ b ∧ b < (rc k).ev.n')
    · rw [hfA b hh] at hb
      exact T.src hD hk hT hn M (hbid b c hh hb i hi)
    · rw [hfB b hh] at hb
      exact U_add (M.idB b c hb i hi)

theorem Txt.any (T : Txt G ops N st rc) {F : Fence} (hF : WideF F) {η0 a0 w0} {Q : Exit → Act → World → Prop}
    (hQ : ∀ D η a w, (∀ j, j < N → D j = true) → Mid G N st rc η0 a0 w0 D η a w → Q .normal a w) :
    ∀ (fuel : Nat) (listed : Array Bool) (η : Nat → Nat) (a : Act) (w : World), listed.size = N → listed.toList.countP (fun b => !b) = fuel →
      Closed ops (fun i => listed.getD i false) → Mid G N st rc η0 a0 w0 (fun i => listed.getD i false) η a w → wpAnyIn F 0 G.P .any ops Q fuel listed a w := by
  have done : ∀ (listed : Array Bool) η a w, listed.size = N → Mid G N st rc η0 a0 w0 (fun i => listed.getD i false) η a w → Region.ready .any ops listed = [] → Q .normal a w := by
    intro listed η a w hsz M hr
    refine hQ _ η a w (fun j => ?_) M
    induction j using Nat.strongRecOn with
    | ind j ih =>
      intro hj
      by_cases hd : listed.getD j false = true
      · exact hd
      · have : j ∈ Region.ready .any ops listed := by
          rw [mem_ready]
          have hlt : j < listed.size := by omega
          refine ⟨by simp [Array.getD, hlt] at hd ⊢; exact hd, (rc j).o, T.opsk j hj, fun e he hb => ?_⟩
          have := T.edge j hj e (by simpa using he) hb
          exact ih e.on this (by omega)
        rw [hr] at this; cases this
  intro fuel
  induction fuel with
  | zero =>
    intro listed η a w hsz hc hD M
    have hr : Region.ready .any ops listed = [] := by
      cases hr : Region.ready .any ops listed with
      | nil => rfl
      | cons i l =>
        have hi : i ∈ Region.ready .any ops listed := by rw [hr]; simp
        obtain ⟨h1, o, ho, _⟩ := mem_ready.1 hi
        have hlt : i < listed.size := by rw [hsz, ← T.size]; exact (Array.getElem?_eq_some_iff.1 ho).1
        rw [List.countP_eq_zero] at hc
        have := hc listed[i] (by simp)
        simp [Array.getD, hlt] at h1
        simp [h1] at this
    exact ⟨hr, done listed η a w hsz M hr⟩
  | succ fuel ih =>
    intro listed η a w hsz hc hD M
    refine ⟨done listed η a w hsz M, fun k hkr => ?_⟩
    obtain ⟨h1, o, ho, h3⟩ := mem_ready.1 hkr
    have hkN : k < N := by rw [← T.size]; exact (Array.getElem?_eq_some_iff.1 ho).1
    have hlt : k < listed.size := by omega
    have ho' : (rc k).o = o := by
      have := T.opsk k hkN
      rw [ho] at this; injection this with this; exact this.symm
    have hfalse : listed[k] = false := by simpa [Array.getD, hlt] using h1
    have hn : (fun i => listed.getD i false) k = false := by simp [Array.getD, hlt, hfalse]
    have hT : Tgt ops (fun i => listed.getD i false) k := by
      intro o' ho' e he hb
      rw [ho] at ho'; injection ho' with ho'; subst ho'
      exact h3 e (by simpa using he) hb
    have hadd : (fun i => (listed.setIfInBounds k true).getD i false) = addD (fun i => listed.getD i false) k := by
      funext i
      simp only [addD, Array.getD_eq_getD_getElem?, Array.getElem?_setIfInBounds]
      by_cases e : i = k
      · subst e; simp [hlt]
      · simp [e, Ne.symm e]
    have hc' : (listed.setIfInBounds k true).toList.countP (fun b => !b) = fuel := by
      rw [Array.toList_setIfInBounds, List.countP_set (by simpa using hlt)]
      have hc2 := hc
      rw [Array.countP_toList] at hc2
      simp [hfalse]
      omega
    have next : ∀ η' a' w', Mid G N st rc η0 a0 w0 (addD (fun i => listed.getD i false) k) η' a' w' → wpAnyIn F 0 G.P .any ops Q fuel (listed.setIfInBounds k true) a' w' := by
      intro η' a' w' M'
      exact ih _ η' a' w' (by simp [hsz]) hc' (by rw [hadd]; exact hD.add hT) (by rw [hadd]; exact M')
    have ok := T.ok k hkN
    have hag : ∀ t ∈ namesOf ops (rc k).o, Agree η a.tmps[t]? (nth (rc k).S.ts t) := by
      intro t ht
      rw [T.S k hkN]
      have s := T.readyT hD hkN hT hn ht
      have s' : Sim (nth (st k).ts t) (curT N st rc (fun i => listed.getD i false) t) := ⟨s.any.symm, fun η => (s.den η).symm, s.ids.symm⟩
      exact s'.agree (M.ts t)
    unfold wpOpIn
    simp only [ho]
    subst ho'
    cases hs : (rc k).sk with
    | true =>
      obtain ⟨_, _, _, hw⟩ := ok.skp hs
      rw [if_neg (by rw [hw η a.tmps hag]; simp)]
      exact ⟨about_ok hF, next η _ w (T.skip hD hkN hT hn M hs)⟩
    | false =>
      obtain ⟨hw, hgo⟩ := ok.go hs η a hag
      rw [if_pos hw]
      refine hgo F hF w ?_ _ Q fun η' w' H' P => ?_
      · refine M.hr.less fun i b hb => ?_
        rw [hget_restrict] at hb
        split at hb
        · rename_i hm
          rw [T.readyB hD hkN hT hn hm, ← T.S k hkN]; exact hb
        · cases hb
      · obtain ⟨η'', M'⟩ := T.step hD hkN hT hn M hs H' P
        exact next η'' _ w' M'
end

theorem chain_get {R : List Rc} : ∀ {S S' : St}, Chain S R S' → ∀ k, k < R.length → ∃ rc, R[k]? = some rc ∧ (k = 0 → rc.S = S) ∧ (∀ r, k ≠ 0 → R[k - 1]? = some r → rc.S = r.nx) ∧ (k + 1 = R.length → rc.nx = S') := by
  induction R with
  | nil => intro S S' _ k hk; simp at hk
  | cons x R ih =>
    intro S S' h k hk
    obtain ⟨h1, h2⟩ := h
    cases k with
    | zero =>
      refine ⟨x, rfl, fun _ => h1, fun r h => absurd rfl h, fun h => ?_⟩
      have : R = [] := by simpa using h
      subst this
      exact h2
    | succ k =>
      obtain ⟨rc, r1, r2, r3, r4⟩ := ih h2 k (by simpa using hk)
      refine ⟨rc, by simpa using r1, fun h => by omega, fun r _ hr => ?_, fun h => r4 (by simpa using h)⟩
      cases k with
      | zero => simp at hr; subst hr; exact r2 rfl
      | succ k => exact r3 r (by omega) (by simpa using hr)

theorem mid_start {G : Glob} {N : Nat} {st : Nat → St} {rc : Nat → Rc} {η : Nat → Nat} {a : Act} {w : World} {D : Nat → Bool} (hD : ∀ i, D i = false) (hr : HR G.w0 η (st 0).hp w) (ts : LRel η (st 0).ts a.tmps)
    (hlen : (st 0).hp.length ≤ (st N).hp.length)
    (h0 : okHp (ltb (st 0).hp.length) (st 0).hp = true) (t0 : SV.allvs (ltb (st 0).hp.length) (st 0).ts = true) : Mid G N st rc η a w D η a w := by
  have c0 : ∀ {α : Type} (touch : Nat → Bool) (val : Nat → α) (init : α) (m : Nat), cur touch val init D m = init := by
    intro α touch val init m
    induction m with
    | zero => rfl
    | succ m ih => simp only [cur, hD, Bool.false_eq_true, false_and, if_false]; exact ih
  have hB : curB N st rc D = hget (st 0).hp := by funext b; exact c0 _ _ _ _
  have hT : ∀ t, curT N st rc D t = nth (st 0).ts t := fun t => c0 _ _ _ _
  refine ⟨by rw [hB]; exact hr, fun t => ?_, ts.1, rfl, ?_, fun t i hi => ?_, fun b c hb i hi => ?_⟩
  · rw [hT]
    by_cases e : nth (st 0).ts t = .any
    · exact .inl e
    · exact .inr (ts.nth rfl e)
  · rw [hB]
    have := PO.refl η (st 0).hp w
    exact ⟨this.ext, hlen, this.dom, this.fresh, this.os, this.tape, this.output, this.grow, this.oth⟩
  · rw [hT, nth_eq] at hi
    cases hg : (st 0).ts[t]? with
    | none => rw [hg] at hi; simp [idsV] at hi
    | some v =>
      rw [hg] at hi
      exact .inl (ltb_iff.1 ((allv_ids v).1 (allvs_iff.1 t0 v (List.mem_of_getElem? hg)) i (by simpa using hi)))
  · rw [hB] at hb
    exact .inl (ltb_iff.1 ((allb_ids c).1 (okHp_get h0 hb) i hi))

theorem exDraw_sound {G : Glob} (hG : GOk G) {r : Rec} (hr : RecOk G r) {cx : Cx} {ops : Array Oper} {S : St} {K : St → Prop} (h : exDraw G r cx ops ops.toList S [] K)
    (h1 : okHp (ltb S.hp.length) S.hp = true) (h2 : SV.allvs (ltb S.hp.length) S.ts = true) :
    ∃ S', K S' ∧ ∀ E : Ent, ∀ F, WideF F → ∀ η a w, RelS G.w0 E η S a w → ∀ Q : Exit → Act → World → Prop, (∀ η' a' w', RelS G.w0 E η' S' a' w' → Q .normal a' w') →
      wpAnyIn F 0 G.P .any ops Q ops.size (Array.replicate ops.size false) a { w with drawn := w.drawn + 1 } := by
  obtain ⟨R, S', hK, hm, hc, hok, hch, hedg⟩ := exDraw_trace hr ops.toList S [] K h
  refine ⟨S', hK, fun E F hF η a w hS Q hQ => ?_⟩
  have hlen : R.length = ops.size := by
    have := congrArg List.length hm
    simpa using this
  -- the text's run
  have : ∃ st rc, Txt G ops R.length st rc ∧ st 0 = S ∧ st R.length = S' ∧ ∀ k, k < R.length → (st (k + 1)).df = (st k).df := by
    cases hR : R with
    | nil =>
      subst hR
      simp only [Chain] at hc
      subst hc
      refine ⟨fun _ => S, fun _ => Classical.choice ?_, ⟨fun k hk => absurd hk (by simp), by simpa using hlen.symm, fun k hk => absurd hk (by simp), fun k hk => absurd hk (by simp), fun k hk => absurd hk (by simp), fun i j _ hj => absurd hj (by simp), fun k hk => absurd hk (by simp), h1, h2⟩, rfl, rfl, fun k hk => absurd hk (by simp)⟩
      exact ⟨⟨⟨none, .move (.func 0), 0, "", #[], none⟩, S, [], .any, true, ⟨[], false, 0, 0⟩, [], S⟩⟩
    | cons x R0 =>
      rw [← hR]
      have hpos : 0 < R.length := by rw [hR]; simp
      let rc : Nat → Rc := fun k => (R[k]?).getD x
      let st : Nat → St := fun k => if k = 0 then S else (rc (k - 1)).nx
      have rcg : ∀ k, k < R.length → R[k]? = some (rc k) := fun k hk => by simp [rc, hk]
      have hops : ∀ k, k < R.length → ops[k]? = some (rc k).o := fun k hk => by
        rw [← Array.getElem?_toList, ← hm, List.getElem?_map, rcg k hk]; rfl
      have hSk : ∀ k, k < R.length → (rc k).S = st k := fun k hk => by
        obtain ⟨q, q1, q2, q3, q4⟩ := chain_get hc k hk
        rw [rcg k hk] at q1; injection q1 with q1; subst q1
        by_cases e : k = 0
        · subst e; simpa [st] using q2 rfl
        · simp only [st, e, if_false]
          exact q3 _ e (rcg (k - 1) (by omega))
      have hokk : ∀ k, k < R.length → RcOk G ops (rc k) := fun k hk => hok _ (List.mem_of_getElem? (rcg k hk))
      refine ⟨st, rc, ⟨hops, hlen.symm, hSk, fun k hk => by simp [st], hokk, fun i j hij hj => ?_, fun k hk e he hb => ?_, by simpa [st] using h1, by simpa [st] using h2⟩, by simp [st], ?_, fun k hk => ?_⟩
      · have evg : ∀ k, k < R.length → (R.map (·.ev))[k]? = some (rc k).ev := fun k hk => by rw [List.getElem?_map, rcg k hk]; rfl
        have og : ∀ k, k < R.length → ops.toList[k]? = some (rc k).o := fun k hk => by rw [Array.getElem?_toList]; exact hops k hk
        have := chkReg_get hch rfl (j := j) (og j hj) (by simpa using evg j hj) (i := i) (by simpa using hij) (by simpa using og i (by omega)) (by simpa using evg i (by omega))
        rcases this with p | p
        · exact .inl fun D hD hT => befL_bit hD ops.toList [] (by simp) (fun m i hb => by simp at hb) j i p hT
        · exact .inr p
      · have := edgesOk_get hedg (j := k) (by rw [Array.getElem?_toList]; exact hops k hk) e he hb
        simpa using this
      · obtain ⟨q, q1, q2, q3, q4⟩ := chain_get hc (R.length - 1) (by omega)
        rw [rcg _ (by omega)] at q1; injection q1 with q1
        have e : ¬ R.length = 0 := by omega
        simp only [st, e, if_false]
        rw [q1]; exact q4 (by omega)
      · have := (hokk k hk).ndf
        rw [hSk k hk] at this
        simp only [st, Nat.add_eq_zero_iff, Nat.succ_ne_self, and_false, if_false, Nat.add_sub_cancel]
        simpa [st] using this
  obtain ⟨st, rc, T, hst0, hstN, hdf⟩ := this
  have dfk : ∀ k, k ≤ R.length → (st k).df = (st 0).df := by
    intro k
    induction k with
    | zero => intro _; rfl
    | succ k ih => intro hk; rw [hdf k (by omega)]; exact ih (by omega)
  have hfalse : ∀ i, (fun i => (Array.replicate ops.size false).getD i false) i = false := by
    intro i
    simp only [Array.getD_eq_getD_getElem?, Array.getElem?_replicate]
    split <;> rfl
  have hr0 : HR G.w0 η (st 0).hp { w with drawn := w.drawn + 1 } := by rw [hst0]; exact hS.hr.drew _
  refine T.any hF (η0 := η) (a0 := a) (w0 := { w with drawn := w.drawn + 1 }) ?_ ops.size _ η a _ (by simp [hlen]) (by simp [List.countP_replicate]) (fun m hm => by rw [hfalse] at hm; cases hm)
    (mid_start hfalse hr0 (by rw [hst0]; exact hS.ts) (T.up (Nat.zero_le _) (Nat.le_refl _)) (by rw [hst0]; exact h1) (by rw [hst0]; exact h2))
  intro D η' a' w' hall M
  have hB : curB R.length st rc D = hget S'.hp := by
    funext b
    rw [← hstN, ← T.textB (Nat.le_refl _) b]
    exact cur_congr fun j hj _ => by rw [hall j hj]; simp [hj]
  have hT : ∀ t, Sim (curT R.length st rc D t) (nth S'.ts t) := by
    intro t
    rw [← hstN]
    have : curT R.length st rc D t = curT R.length st rc (fun j => decide (j < R.length)) t := cur_congr fun j hj _ => by rw [hall j hj]; simp [hj]
    rw [this]; exact T.textT (Nat.le_refl _) t
  have hdfS : S'.df = S.df := by rw [← hstN, ← hst0]; exact dfk _ (Nat.le_refl _)
  have hlenS : S.hp.length ≤ S'.hp.length := by rw [← hstN, ← hst0]; exact T.up (Nat.zero_le _) (Nat.le_refl _)
  have po := M.po
  rw [hB, hst0, hstN] at po
  refine hQ η' a' w' ⟨by have := M.hr; rwa [hB] at this, ?_, ?_, fun d hd => ?_, ?_⟩
  · refine ⟨by rw [M.sz, ← hstN, T.len (Nat.le_refl _)], fun i v hv => ?_⟩
    have s := hT i
    have hn : nth S'.ts i = v := by rw [nth_eq, hv]; rfl
    rw [hn] at s
    have s' : Sim v (curT R.length st rc D i) := ⟨s.any.symm, fun η => (s.den η).symm, s.ids.symm⟩
    exact s'.agree (M.ts i)
  · rw [M.df, hS.df, hdfS]
    exact (dfs_congr fun d hd => po.ext d (hS.dfl d hd)).symm
  · rw [hdfS] at hd; have := hS.dfl d hd; omega
  · exact hS.po.trans ⟨po.ext, po.len, po.dom, po.fresh, po.os, po.tape, po.output, po.grow, po.oth⟩

end Go.Sx
