import Derived.Test.YtaaobpalpcdlbaaSxK
set_option linter.unusedSimpArgs false
set_option linter.unusedVariables false
namespace Go.Sx
open Go.RowKit (Below)

def cur {α : Type} (touch : Nat → Bool) (val : Nat → α) (init : α) (D : Nat → Bool) : Nat → α
  | 0 => init
  | m + 1 => if D m = true ∧ touch m = true then val m else cur touch val init D m

theorem cur_congr {α : Type} {touch : Nat → Bool} {val : Nat → α} {init : α} {D D' : Nat → Bool} : ∀ {m : Nat}, (∀ j, j < m → touch j = true → D j = D' j) → cur touch val init D m = cur touch val init D' m
  | 0, _ => rfl
  | m + 1, h => by
    simp only [cur]
    rw [cur_congr (m := m) fun j hj ht => h j (by omega) ht]
    by_cases ht : touch m = true
    · rw [h m (by omega) ht]
    · simp [ht]

theorem cur_last {α : Type} {touch : Nat → Bool} {val : Nat → α} {init : α} {D : Nat → Bool} {k : Nat} (hD : D k = true) (ht : touch k = true) : ∀ {m : Nat}, k < m →
    (∀ j, k < j → j < m → touch j = true → D j = false) → cur touch val init D m = val k
  | 0, h, _ => by omega
  | m + 1, h, hl => by
    simp only [cur]
    by_cases e : k = m
    · subst e; simp [hD, ht]
    · rw [if_neg, cur_last hD ht (m := m) (by omega) fun j h1 h2 => hl j h1 (by omega)]
      rintro ⟨h1, h2⟩
      rw [hl m (by omega) (by omega) h2] at h1; cases h1

theorem cur_text {α : Type} {touch : Nat → Bool} {val : Nat → α} {init : α} {ρ : α → α → Prop} {x : Nat → α} {N : Nat} (hr : ∀ a, ρ a a) (ht : ∀ a b c, ρ a b → ρ b c → ρ a c) (h0 : init = x 0)
    (h1 : ∀ j, j < N → touch j = true → ρ (val j) (x (j + 1))) (h2 : ∀ j, j < N → touch j = false → ρ (x j) (x (j + 1))) {k : Nat} (hk : k ≤ N) : ρ (cur touch val init (fun j => decide (j < k)) N) (x k) := by
  have a1 : ∀ m, m ≤ N → ρ (cur touch val init (fun _ => true) m) (x m) := by
    intro m
    induction m with
    | zero => intro _; simp only [cur]; rw [h0]; exact hr _
    | succ m ih =>
      intro hm
      simp only [cur]
      by_cases e : touch m = true
      · rw [if_pos ⟨trivial, e⟩]; exact h1 m (by omega) e
      · rw [if_neg (by simp [e])]; exact ht _ _ _ (ih (by omega)) (h2 m (by omega) (by simpa using e))
  have a2 : ∀ m, k ≤ m → cur touch val init (fun j => decide (j < k)) m = cur touch val init (fun _ => true) k := by
    intro m hm
    induction m with
    | zero => have : k = 0 := by omega
              subst this; rfl
    | succ m ih =>
      by_cases e : k = m + 1
      · subst e; exact cur_congr fun j hj _ => by simp [hj]
      · simp only [cur]
        rw [if_neg (by simp; omega)]; exact ih (by omega)
  rw [a2 N hk]; exact a1 k hk

def Tgt (ops : Array Oper) (D : Nat → Bool) (m : Nat) : Prop := ∀ o, ops[m]? = some o → ∀ e ∈ o.after.toList, Region.binds .any e = true → D e.on = true
def Closed (ops : Array Oper) (D : Nat → Bool) : Prop := ∀ m, D m = true → Tgt ops D m

theorem maskE_bit {i : Nat} {acc : List Nat} : ∀ {es : List Edge}, Nat.testBit (maskE es acc) i = true → ∃ e ∈ es, Region.binds .any e = true ∧ (i = e.on ∨ Nat.testBit (acc.getD e.on 0) i = true)
  | [], h => by simp [maskE] at h
  | e :: r, h => by
    simp only [maskE] at h
    split at h
    · rename_i hb
      rw [Nat.testBit_or, Nat.testBit_or] at h
      simp only [Bool.or_eq_true, Nat.testBit_two_pow, decide_eq_true_eq] at h
      rcases h with (h | h) | h
      · exact ⟨e, by simp, hb, .inl h.symm⟩
      · exact ⟨e, by simp, hb, .inr h⟩
      · obtain ⟨e', h1, h2⟩ := maskE_bit h
        exact ⟨e', by simp [h1], h2⟩
    · obtain ⟨e', h1, h2⟩ := maskE_bit h
      exact ⟨e', by simp [h1], h2⟩

theorem befL_bit {ops : Array Oper} {D : Nat → Bool} (hD : Closed ops D) : ∀ (os : List Oper) (acc : List Nat), ops.toList.drop acc.length = os → (∀ m i, Nat.testBit (acc.getD m 0) i = true → Tgt ops D m → D i = true) →
    ∀ m i, Nat.testBit ((befL os acc).getD m 0) i = true → Tgt ops D m → D i = true
  | [], acc, _, h => h
  | o :: os, acc, hd, h => by
    simp only [befL]
    have ho : ops[acc.length]? = some o := by
      rw [← Array.getElem?_toList]
      have := congrArg (fun l => l[0]?) hd
      simpa using this
    refine befL_bit hD os _ ?_ ?_
    · rw [List.length_append, ← List.drop_drop, hd]; rfl
    · intro m i hb ht
      rw [List.getD_eq_getElem?_getD] at hb
      by_cases e : m < acc.length
      · rw [List.getElem?_append_left e, ← List.getD_eq_getElem?_getD] at hb
        exact h m i hb ht
      · by_cases e2 : m = acc.length
        · subst e2
          simp at hb
          obtain ⟨e', h1, h2, h3⟩ := maskE_bit hb
          have hx := ht o ho e' (by simpa using h1) h2
          rcases h3 with rfl | h3
          · exact hx
          · exact h _ _ h3 (hD _ hx)
        · rw [List.getElem?_eq_none (by simp; omega)] at hb
          simp at hb

theorem chkRow_get {ops : Array Oper} {bj : Nat} {oj : Oper} {ej : Ev} : ∀ {os : List Oper} {es : List Ev} {i0 : Nat}, chkRow ops bj oj ej i0 os es = true → ∀ {i : Nat} {oi : Oper} {ei : Ev}, os[i]? = some oi → es[i]? = some ei →
    Nat.testBit bj (i0 + i) = true ∨ apartB ops oi oj ei ej = true
  | [], _, _, _, i, oi, ei, h1, _ => by simp at h1
  | _ :: _, [], _, _, i, oi, ei, _, h2 => by simp at h2
  | o :: os, e :: es, i0, h, i, oi, ei, h1, h2 => by
    simp only [chkRow] at h
    have both : (Nat.testBit bj i0 = true ∨ apartB ops o oj e ej = true) ∧ chkRow ops bj oj ej (i0 + 1) os es = true := by
      split at h
      · exact ⟨.inl (by assumption), h⟩
      · split at h
        · exact ⟨.inr (by assumption), h⟩
        · cases h
    cases i with
    | zero => simp at h1 h2; subst h1; subst h2; simpa using both.1
    | succ i =>
      have := chkRow_get both.2 (i := i) (oi := oi) (ei := ei) (by simpa using h1) (by simpa using h2)
      rwa [show i0 + 1 + i = i0 + (i + 1) by omega] at this

theorem chkReg_get {ops : Array Oper} : ∀ {os : List Oper} {es : List Ev} {bs : List Nat} {done : List Oper} {devs : List Ev}, chkReg ops bs done devs os es = true → done.length = devs.length →
    ∀ {j : Nat} {oj : Oper} {ej : Ev}, os[j]? = some oj → es[j]? = some ej → ∀ {i : Nat} {oi : Oper} {ei : Ev}, i < done.length + j → (done ++ os)[i]? = some oi → (devs ++ es)[i]? = some ei →
    Nat.testBit (bs.getD j 0) i = true ∨ apartB ops oi oj ei ej = true
  | [], _, _, _, _, _, _, j, oj, ej, h1, _, i, oi, ei, _, _, _ => by simp at h1
  | _ :: _, [], _, _, _, _, _, j, oj, ej, _, h2, i, oi, ei, _, _, _ => by simp at h2
  | o :: os, e :: es, bs, done, devs, h, hl, j, oj, ej, h1, h2, i, oi, ei, hi, h3, h4 => by
    simp only [chkReg] at h
    split at h
    · rename_i hrow
      cases j with
      | zero =>
        simp at h1 h2; subst h1; subst h2
        rw [List.getElem?_append_left (by omega)] at h3 h4
        have := chkRow_get hrow h3 h4
        cases bs <;> simpa using this
      | succ j =>
        have := chkReg_get h (by simp [hl]) (j := j) (oj := oj) (ej := ej) (by simpa using h1) (by simpa using h2) (i := i) (oi := oi) (ei := ei) (by simp; omega) (by simpa using h3) (by simpa using h4)
        cases bs <;> simpa using this
    · cases h

theorem edgesLt_mem {j : Nat} : ∀ {es : List Edge}, edgesLt j es = true → ∀ e ∈ es, Region.binds .any e = true → e.on < j
  | [], _, e, he, _ => by cases he
  | x :: r, h, e, he, hb => by
    simp only [edgesLt] at h
    have both : (Region.binds .any x = true → x.on < j) ∧ edgesLt j r = true := by
      split at h
      · cases h
      · rename_i h1
        refine ⟨fun hx => ?_, h⟩
        cases hh : Nat.blt x.on j with
        | true => simpa [Nat.blt_eq] using hh
        | false => exact (h1 hx hh).elim
    rcases List.mem_cons.1 he with rfl | he
    · exact both.1 hb
    · exact edgesLt_mem both.2 e he hb
theorem edgesOk_get : ∀ {os : List Oper} {k : Nat}, edgesOk k os = true → ∀ {j : Nat} {o : Oper}, os[j]? = some o → ∀ e ∈ o.after.toList, Region.binds .any e = true → e.on < k + j
  | [], k, _, j, o, h1 => by simp at h1
  | x :: os, k, h, j, o, h1 => by
    simp only [edgesOk] at h
    split at h
    · rename_i hx
      cases j with
      | zero => simp at h1; subst h1; simpa using edgesLt_mem hx
      | succ j =>
        have := edgesOk_get h (j := j) (o := o) (by simpa using h1)
        rwa [show k + 1 + j = k + (j + 1) by omega] at this
    · cases h

theorem disj_mem {l m : List Nat} (h : disj l m = true) : ∀ x ∈ l, x ∉ m := by
  induction l with
  | nil => intro x hx; cases hx
  | cons y r ih =>
    simp only [disj] at h
    split at h
    · cases h
    · rename_i hy
      intro x hx
      rcases List.mem_cons.1 hx with rfl | hx
      · exact memN_false.1 hy
      · exact ih h x hx
theorem outOf_mem {n n' : Nat} {l : List Nat} (h : outOf n n' l = true) : ∀ x ∈ l, ¬ (n ≤ x ∧ x < n') := by
  induction l with
  | nil => intro x hx; cases hx
  | cons y r ih =>
    simp only [outOf] at h
    split at h
    · cases h
    · rename_i hy
      intro x hx
      rcases List.mem_cons.1 hx with rfl | hx
      · rintro ⟨h1, h2⟩
        exact hy (by rw [Nat.ble_eq]; exact h1) (by rw [Nat.blt_eq]; exact h2)
      · exact ih h x hx

theorem apartB_eq {ops : Array Oper} {oi oj : Oper} {ei ej : Ev} (h : apartB ops oi oj ei ej = true) :
    (∀ t ∈ dstL oi, t ∉ namesOf ops oj) ∧ (∀ t ∈ dstL oj, t ∉ namesOf ops oi) ∧ (∀ b, memN b ej.fp = true → ¬ (ei.n ≤ b ∧ b < ei.n')) ∧
    ((ei.wr = true ∨ ej.wr = true) → ∀ b, memN b ei.fp = true → memN b ej.fp = true → False) := by
  unfold apartB at h
  split at h
  · rename_i h1 h2 h3
    refine ⟨disj_mem h1, disj_mem h2, fun b hb => outOf_mem h3 b (memN_iff.1 hb), fun hw b hb hb' => ?_⟩
    split at h
    · rename_i w1 w2
      rcases hw with e | e
      · rw [w1] at e; cases e
      · rw [w2] at e; cases e
    · exact disj_mem h b (memN_iff.1 hb) (memN_iff.1 hb')
  · cases h

theorem local_step {w0 : World} {η0 : Nat → Nat} {f0 : Nat → Option SBk} {n0 M : Nat} {w00 : World} {η : Nat → Nat} {f : Nat → Option SBk} {w : World} (H : HRel w0 η f w) (P0 : Post η0 f0 n0 w00 η f M w)
    {A : Nat → Prop} {n n' : Nat} {η' : Nat → Nat} {g g' f' : Nat → Option SBk} {w' : World} (hn0 : n0 ≤ n) (hnn : n ≤ n')
    (hgA : ∀ i, A i → g i = f i) (hgB : ∀ i, ¬ A i → g i = none) (hA : ∀ i, A i → i < n)
    (H' : HRel w0 η' g' w') (P : Post η g n w η' g' n' w')
    (hfA : ∀ i, (A i ∨ (n ≤ i ∧ i < n')) → f' i = g' i) (hfB : ∀ i, ¬ (A i ∨ (n ≤ i ∧ i < n')) → f' i = f i) {η'' : Nat → Nat}
    (e1 : ∀ i, n ≤ i ∧ i < n' → η'' i = η' i) (e2 : ∀ i, ¬ (n ≤ i ∧ i < n') → η'' i = η i)
    (hids' : ∀ i b, (A i ∨ (n ≤ i ∧ i < n')) → g' i = some b → ∀ j ∈ idsB (some b), η'' j = η' j)
    (hids : ∀ i b, f i = some b → ∀ j ∈ idsB (some b), η'' j = η j) :
    HRel w0 η'' f' w' ∧ Post η0 f0 n0 w00 η'' f' M w' := by
  -- here
  have here : ∀ i b, (A i ∨ (n ≤ i ∧ i < n')) → f' i = some b → g' i = some b ∧ η'' i = η' i := by
    intro i b hi hb
    rw [hfA i hi] at hb
    refine ⟨hb, ?_⟩
    rcases hi with h | h
    · rw [e2 i (by have := hA i h; omega), P.ext i (hA i h)]
    · exact e1 i h
  have old : ∀ i b, A i → g' i = some b → ∃ b0, f i = some b0 ∧ η' i = η i := by
    intro i b hi hb
    obtain ⟨b0, h0⟩ := P.dom i b hb (hA i hi)
    exact ⟨b0, by rw [← hgA i hi]; exact h0, P.ext i (hA i hi)⟩
  have gsome : ∀ i b, g i = some b → A i ∧ f i = some b := by
    intro i b hb
    by_cases h : A i
    · exact ⟨h, by rw [← hgA i h]; exact hb⟩
    · rw [hgB i h] at hb; cases hb
  have there : ∀ i b, ¬ (A i ∨ (n ≤ i ∧ i < n')) → f' i = some b → f i = some b ∧ η'' i = η i := by
    intro i b hi hb
    rw [hfB i hi] at hb
    exact ⟨hb, e2 i fun h => hi (.inr h)⟩
  refine ⟨⟨H'.base, fun i b hb => ?_, fun i b hb => ?_, fun i j bi bj hi hj e => ?_⟩, ⟨fun i hi => ?_, P0.len, fun i b hb hi => ?_, fun i b hb hi => ?_, P.os.trans P0.os, P.tape.trans P0.tape, P.output.trans P0.output, Nat.le_trans P0.grow P.grow, fun r hr hn => ?_⟩⟩
  · by_cases h : A i ∨ (n ≤ i ∧ i < n')
    · obtain ⟨h1, h2⟩ := here i b h hb
      rw [h2]; exact H'.hi i b h1
    · obtain ⟨h1, h2⟩ := there i b h hb
      rw [h2]; exact H.hi i b h1
  · by_cases h : A i ∨ (n ≤ i ∧ i < n')
    · obtain ⟨h1, h2⟩ := here i b h hb
      obtain ⟨o, ho, hr⟩ := H'.cell i b h1
      exact ⟨o, by rw [h2]; exact ho, brel_ids (hids' i b h h1) hr⟩
    · obtain ⟨h1, h2⟩ := there i b h hb
      obtain ⟨o, ho, hr⟩ := H.cell i b h1
      refine ⟨o, ?_, brel_ids (hids i b h1) hr⟩
      rw [h2, P.oth _ (H.lt h1) fun k c hk => ?_]
      · exact ho
      · obtain ⟨k1, k2⟩ := gsome k c hk
        intro e
        have := H.inj k i c b k2 h1 e
        subst this
        exact h (.inl k1)
  · have cross : ∀ i j bi bj, (A i ∨ (n ≤ i ∧ i < n')) → ¬ (A j ∨ (n ≤ j ∧ j < n')) → f' i = some bi → f' j = some bj → η'' i = η'' j → False := by
      intro i j bi bj h k hi hj e
      obtain ⟨h1, h2⟩ := here i bi h hi
      obtain ⟨k1, k2⟩ := there j bj k hj
      rw [h2, k2] at e
      rcases h with h | h
      · obtain ⟨b0, g1, g2⟩ := old i bi h h1
        rw [g2] at e
        have := H.inj i j b0 bj g1 k1 e
        subst this
        exact k (.inl h)
      · rcases P.fresh i bi h1 h.1 with h5 | ⟨k', b', hk', _, e'⟩
        · have := H.lt k1
          omega
        · obtain ⟨g1, g2⟩ := gsome k' b' hk'
          rw [e'] at e
          have := H.inj k' j b' bj g2 k1 e
          subst this
          exact k (.inl g1)
    by_cases h : A i ∨ (n ≤ i ∧ i < n') <;> by_cases k : A j ∨ (n ≤ j ∧ j < n')
    · obtain ⟨h1, h2⟩ := here i bi h hi
      obtain ⟨k1, k2⟩ := here j bj k hj
      rw [h2, k2] at e
      exact H'.inj i j bi bj h1 k1 e
    · exact (cross i j bi bj h k hi hj e).elim
    · exact (cross j i bj bi k h hj hi e.symm).elim
    · obtain ⟨h1, h2⟩ := there i bi h hi
      obtain ⟨k1, k2⟩ := there j bj k hj
      rw [h2, k2] at e
      exact H.inj i j bi bj h1 k1 e
  · rw [e2 i (by omega)]; exact P0.ext i hi
  · by_cases h : A i ∨ (n ≤ i ∧ i < n')
    · obtain ⟨h1, h2⟩ := here i b h hb
      rcases h with h | h
      · obtain ⟨b0, g1, _⟩ := old i b h h1
        exact P0.dom i b0 g1 hi
      · omega
    · exact P0.dom i b (there i b h hb).1 hi
  · by_cases h : A i ∨ (n ≤ i ∧ i < n')
    · obtain ⟨h1, h2⟩ := here i b h hb
      rw [h2]
      rcases h with h | h
      · obtain ⟨b0, g1, g2⟩ := old i b h h1
        rw [g2]; exact P0.fresh i b0 g1 hi
      · rcases P.fresh i b h1 h.1 with h5 | ⟨k', b', hk', _, e'⟩
        · exact .inl (Nat.le_trans P0.grow h5)
        · obtain ⟨g1, g2⟩ := gsome k' b' hk'
          rw [e']
          by_cases hk0 : k' < n0
          · obtain ⟨b0, h0⟩ := P0.dom k' b' g2 hk0
            exact .inr ⟨k', b0, h0, hk0, P0.ext k' hk0⟩
          · exact P0.fresh k' b' g2 (by omega)
    · obtain ⟨h1, h2⟩ := there i b h hb
      rw [h2]; exact P0.fresh i b h1 hi
  · rw [P.oth r (Nat.lt_of_lt_of_le hr P0.grow) fun k c hk => ?_, P0.oth r hr hn]
    obtain ⟨k1, k2⟩ := gsome k c hk
    by_cases hk0 : k < n0
    · obtain ⟨b0, h0⟩ := P0.dom k c k2 hk0
      rw [P0.ext k hk0]; exact hn k b0 h0
    · rcases P0.fresh k c k2 (by omega) with h5 | ⟨j, b', hj, _, e'⟩
      · omega
      · rw [e']; exact hn j b' hj

end Go.Sx
