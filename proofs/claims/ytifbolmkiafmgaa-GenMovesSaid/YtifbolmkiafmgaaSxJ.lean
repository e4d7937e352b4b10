import Derived.Test.YtifbolmkiafmgaaSxM
set_option linter.unusedSimpArgs false
set_option linter.unusedVariables false
namespace Go.Sx
open Go.RowKit (Below)

theorem snEq_eq {a b : SN} (h : snEq a b = true) : a = b := by
  cases a <;> cases b <;> simp only [snEq] at h <;> first | (rw [Nat.eq_of_beq_eq_true h]; done) | cases h
theorem snP_den {a b : SN} (h : snP a b) (η : Nat → Nat) : a.den η = b.den η := by
  cases a <;> cases b <;> simp only [snP] at h
  · split at h
    · rename_i e; rw [Nat.eq_of_beq_eq_true e]
    · exact h.elim
  · split at h
    · rename_i e; rw [Nat.eq_of_beq_eq_true e]
    · exact h.elim
  · rw [h]
theorem stEq_eq {a b : ST} (h : stEq a b = true) : a = b := by
  cases a <;> cases b <;> simp only [stEq] at h <;> first | rfl | (cases h; done) | skip
  split at h
  · rename_i e; rw [Nat.eq_of_beq_eq_true e, Nat.eq_of_beq_eq_true h]
  · cases h

mutual
theorem eqW_den : ∀ {v u : SV}, eqW v u → ∀ η, v.den η = u.den η
  | .bool a, .bool b, h, η => by simp only [eqW] at h; simp [SV.den, h]
  | .int k a, .int l b, h, η => by
    simp only [eqW] at h
    split at h
    · rename_i hk
      simp [SV.den, h, kEq_eq hk]
    · exact h.elim
  | .str a, .str b, h, η => by simp only [eqW] at h; simp [SV.den, h]
  | .ptr a i, .ptr b j, h, η => by
    simp only [eqW] at h
    split at h
    · rename_i h1 h2
      rw [Nat.eq_of_beq_eq_true h1, Nat.eq_of_beq_eq_true h2]
    · exact h.elim
  | .slice a i l c, .slice b j m d, h, η => by
    simp only [eqW] at h
    split at h
    · rename_i h1 h2 h3 h4
      rw [Nat.eq_of_beq_eq_true h1, Nat.eq_of_beq_eq_true h2, Nat.eq_of_beq_eq_true h3, snEq_eq h4]
    · exact h.elim
  | .fn f cs, .fn g ds, h, η => by
    simp only [eqW] at h
    split at h
    · rename_i h1
      simp only [SV.den]
      rw [eqWs_den h η, Nat.eq_of_beq_eq_true h1]
    · exact h.elim
  | .mth f cs, .mth g ds, h, η => by
    simp only [eqW] at h
    split at h
    · rename_i h1
      simp only [SV.den]
      rw [eqWs_den h η, Nat.eq_of_beq_eq_true h1]
    · exact h.elim
  | .yld a, .yld b, h, η => by
    simp only [eqW] at h
    split at h
    · rename_i h1
      rw [Nat.eq_of_beq_eq_true h1]
    · exact h.elim
  | .agg cs, .agg ds, h, η => by simp only [eqW] at h; simp only [SV.den]; rw [eqWs_den h η]
  | .tup cs, .tup ds, h, η => by simp only [eqW] at h; simp only [SV.den]; rw [eqWs_den h η]
  | .val v, .val w, h, η => by simp only [eqW] at h; rw [h]
  | .slice a 0 l c, .fsl b n d, h, η => by
    simp only [eqW] at h
    split at h
    · rename_i h1
      obtain ⟨h2, h3⟩ := h
      subst h2
      simp only [SV.den, snP_den h3 η, Nat.eq_of_beq_eq_true h1, Int.toNat_natCast]
    · exact h.elim
  | .fsl a n c, .fsl b m d, h, η => by
    simp only [eqW] at h
    split at h
    · rename_i h1
      simp only [SV.den, snP_den h.2 η, Nat.eq_of_beq_eq_true h1, h.1]
    · exact h.elim
  | .fptr a i z o, .fptr b j y u, h, η => by
    simp only [eqW] at h
    split at h
    · rename_i h1 h2 h3
      rw [Nat.eq_of_beq_eq_true h1, Nat.eq_of_beq_eq_true h2, Nat.eq_of_beq_eq_true h3, h]
    · exact h.elim
  | .bsl a n c _, .bsl b m d _, h, η => by
    simp only [eqW] at h
    simp only [SV.den, h.1, h.2.1, h.2.2]
  | .bptr a i o fs, .bptr b j u gs, h, η => by
    simp only [eqW] at h
    split at h
    · rename_i h1 h2
      simp only [SV.den, Nat.eq_of_beq_eq_true h1, Nat.eq_of_beq_eq_true h2, h.1, h.2]
    · exact h.elim
  | .osl a i z n c, .osl b j y m d, h, η => by
    simp only [eqW] at h
    split at h
    · rename_i h1 h2
      simp only [SV.den, Nat.eq_of_beq_eq_true h1, Nat.eq_of_beq_eq_true h2, h.1, h.2.1, h.2.2]
    · exact h.elim
theorem eqWs_den : ∀ {cs ds : List SV}, eqWs cs ds → ∀ η, SV.dens η cs = SV.dens η ds
  | [], [], _, η => rfl
  | c :: cs, d :: ds, h, η => by
    simp only [eqWs] at h
    simp only [SV.dens]
    rw [eqW_den h.1 η, eqWs_den h.2 η]
end
theorem eqW_any {x y : SV} (h : eqW x y) : x ≠ .any := by
  rintro rfl
  cases y <;> simp [eqW] at h

theorem leV_rel {η : Nat → Nat} : ∀ {xs ys : List SV} {a : List Value}, leV xs ys → (a.length = xs.length ∧ ∀ (i : Nat) (v : SV), xs[i]? = some v → v = .any ∨ a[i]? = some (v.den η)) →
    (a.length = ys.length ∧ ∀ (i : Nat) (v : SV), ys[i]? = some v → v = .any ∨ a[i]? = some (v.den η))
  | [], [], a, _, h => h
  | [], _ :: _, a, h, _ => by simp [leV] at h
  | _ :: _, [], a, h, _ => by simp [leV] at h
  | x :: xs, y :: ys, [], _, h => by simp at h
  | x :: xs, y :: ys, u :: a, hle, h => by
    have tail : leV xs ys ∧ (y = .any ∨ eqW x y) := by
      cases y <;> simp only [leV] at hle <;> first | exact ⟨hle, .inl rfl⟩ | exact ⟨hle.2, .inr hle.1⟩
    have ih := leV_rel (a := a) tail.1 ⟨by simpa using h.1, fun i v hv => by simpa using h.2 (i + 1) v (by simpa using hv)⟩
    refine ⟨by simp [ih.1], fun i v hv => ?_⟩
    cases i with
    | zero =>
      simp at hv; subst hv
      rcases tail.2 with e | e
      · exact .inl e
      · have := (h.2 0 x rfl).resolve_left (eqW_any e)
        exact .inr (by rw [this, eqW_den e η])
    | succ i => simpa using ih.2 i v (by simpa using hv)

theorem leV_len : ∀ {xs ys : List SV}, leV xs ys → xs.length = ys.length
  | [], [], _ => rfl
  | [], _ :: _, h => by simp [leV] at h
  | _ :: _, [], h => by simp [leV] at h
  | x :: xs, y :: ys, h => by
    have : leV xs ys := by cases y <;> simp only [leV] at h <;> first | exact h | exact h.2
    simp [leV_len this]
theorem leV_pt {η : Nat → Nat} : ∀ {xs ys : List SV} {a : Nat → Option Value}, leV xs ys → (∀ (i : Nat) (v : SV), xs[i]? = some v → v = .any ∨ a i = some (v.den η)) → ∀ (i : Nat) (v : SV), ys[i]? = some v → v = .any ∨ a i = some (v.den η)
  | [], [], a, _, h => h
  | [], _ :: _, a, h, _ => by simp [leV] at h
  | _ :: _, [], a, h, _ => by simp [leV] at h
  | x :: xs, y :: ys, a, hle, h => by
    have tail : leV xs ys ∧ (y = .any ∨ eqW x y) := by
      cases y <;> simp only [leV] at hle <;> first | exact ⟨hle, .inl rfl⟩ | exact ⟨hle.2, .inr hle.1⟩
    intro i v hv
    cases i with
    | zero =>
      simp at hv; subst hv
      rcases tail.2 with e | e
      · exact .inl e
      · have := (h 0 x rfl).resolve_left (eqW_any e)
        exact .inr (by rw [this, eqW_den e η])
    | succ i => exact leV_pt (a := fun i => a (i + 1)) tail.1 (fun i v hv => h (i + 1) v (by simpa using hv)) i v (by simpa using hv)
theorem leV_LRelT {η : Nat → Nat} {xs ys : List SV} {t : ST} {a : Array Value} (h : leV xs ys) (ha : LRelT η xs t a) : LRelT η ys t a :=
  ⟨by rw [← leV_len h]; exact ha.1, leV_pt (a := fun i => a[i]?) h ha.2⟩
theorem leV_LRel {η : Nat → Nat} {xs ys : List SV} {a : Array Value} (h : leV xs ys) (ha : LRel η xs a) : LRel η ys a := by
  have := leV_rel (η := η) (a := a.toList) h ⟨by simpa using ha.1, fun i v hv => by simpa using ha.2 i v hv⟩
  exact ⟨by simpa using this.1, fun i v hv => by simpa using this.2 i v hv⟩

theorem eqNs_eq : ∀ {l m : List Nat}, eqNs l m = true → l = m
  | [], [], _ => rfl
  | [], _ :: _, h => by simp [eqNs] at h
  | _ :: _, [], h => by simp [eqNs] at h
  | x :: r, y :: q, h => by
    simp only [eqNs] at h
    split at h
    · rename_i hx
      rw [Nat.eq_of_beq_eq_true hx, eqNs_eq h]
    · cases h

theorem lsEq_eq {a b : LoopState} (h : lsEq a b = true) : a = b := by
  cases a <;> cases b <;> simp [lsEq] at h <;> rfl
theorem eqFC_den {fc : FC} {i : Int} {v : SV} (h : eqFC fc i v) : v ≠ .any ∧ ∀ η, v.den η = fc.val i := by
  unfold eqFC at h
  split at h
  · split at h
    · rename_i hk; have hk := kEq_eq hk; subst hk; exact ⟨by simp, fun η => by simp [SV.den, FC.val, h]⟩
    · cases h
  · exact ⟨by simp, fun η => by simp [SV.den, FC.val, h]⟩
  · exact ⟨by simp, fun η => by simp [SV.den, FC.val, h]⟩
  · cases h
theorem eqRow_get : ∀ {fs : List FC} {i : Int} {cs : List SV} {K : List SV → Prop}, eqRow fs i cs K → K (cs.drop fs.length) ∧ ∀ (j : Nat) (fc : FC), fs[j]? = some fc → ∃ v, cs[j]? = some v ∧ v ≠ .any ∧ ∀ η, v.den η = fc.val i
  | [], i, cs, K, h => ⟨by simpa [eqRow] using h, fun j fc hj => by simp at hj⟩
  | fc :: r, i, [], K, h => h.elim
  | fc :: r, i, c :: cs, K, h => by
    obtain ⟨h1, h2⟩ := h
    obtain ⟨a, b⟩ := eqRow_get h2
    refine ⟨by simpa using a, fun j gc hj => ?_⟩
    cases j with
    | zero => simp at hj; subst hj; exact ⟨c, rfl, eqFC_den h1⟩
    | succ j => obtain ⟨v, hv, e⟩ := b j gc (by simpa using hj); exact ⟨v, by simpa using hv, e⟩
theorem eqRows_get {fs : List FC} : ∀ {n : Nat} {i : Int} {cs : List SV}, eqRows fs n i cs → ∀ (a j : Nat) (fc : FC), a < n → fs[j]? = some fc → ∃ v, cs[a * fs.length + j]? = some v ∧ v ≠ .any ∧ ∀ η, v.den η = fc.val (i + a)
  | 0, i, cs, h, a, j, fc, ha, hj => by omega
  | n + 1, i, cs, h, a, j, fc, ha, hj => by
    obtain ⟨h1, h2⟩ := eqRow_get h
    cases a with
    | zero => obtain ⟨v, hv, e1, e2⟩ := h2 j fc hj; exact ⟨v, by simpa using hv, e1, fun η => by simpa using e2 η⟩
    | succ a =>
      obtain ⟨v, hv, e1, e2⟩ := eqRows_get h1 a j fc (by omega) hj
      refine ⟨v, ?_, e1, fun η => ?_⟩
      · rw [List.getElem?_drop] at hv
        rw [← hv]; congr 1; rw [Nat.add_mul]; omega
      · rw [e2 η]; congr 1; push_cast; omega
theorem eqFCs_get {n : Int} : ∀ {gs fs : List FC}, eqFCs n gs fs → gs.length = fs.length ∧ ∀ (j : Nat) (fc : FC), fs[j]? = some fc → ∃ gc, gs[j]? = some gc ∧ ∀ i : Int, 0 ≤ i → i < n → gc.val i = fc.val i
  | [], [], _ => ⟨rfl, fun j fc hj => by simp at hj⟩
  | .int k f :: r, .int l g :: q, h => by
    simp only [eqFCs] at h
    split at h
    · rename_i hk
      have hk := kEq_eq hk; subst hk
      obtain ⟨a, b⟩ := eqFCs_get h.2
      refine ⟨by simp [a], fun j fc hj => ?_⟩
      cases j with
      | zero => simp at hj; subst hj; exact ⟨_, rfl, fun i h0 h1 => by simp [FC.val, h.1 i h0 h1]⟩
      | succ j => obtain ⟨gc, hg, e⟩ := b j fc (by simpa using hj); exact ⟨gc, by simpa using hg, e⟩
    · cases h
  | .bool f :: r, .bool g :: q, h => by
    simp only [eqFCs] at h
    obtain ⟨a, b⟩ := eqFCs_get h.2
    refine ⟨by simp [a], fun j fc hj => ?_⟩
    cases j with
    | zero => simp at hj; subst hj; exact ⟨_, rfl, fun i h0 h1 => by simp [FC.val, h.1 i h0 h1]⟩
    | succ j => obtain ⟨gc, hg, e⟩ := b j fc (by simpa using hj); exact ⟨gc, by simpa using hg, e⟩
  | .str f :: r, .str g :: q, h => by
    simp only [eqFCs] at h
    obtain ⟨a, b⟩ := eqFCs_get h.2
    refine ⟨by simp [a], fun j fc hj => ?_⟩
    cases j with
    | zero => simp at hj; subst hj; exact ⟨_, rfl, fun i h0 h1 => by simp [FC.val, h.1 i h0 h1]⟩
    | succ j => obtain ⟨gc, hg, e⟩ := b j fc (by simpa using hj); exact ⟨gc, by simpa using hg, e⟩
theorem leB_rel {η : Nat → Nat} {x y : SBk} {o : Obj} (h : leB x y) (ho : x.Rel η o) : y.Rel η o := by
  unfold leB at h
  split at h
  · rename_i xs t tl n fs u ul
    split at h
    · rename_i f0 fr h1 h2
      obtain ⟨hn, h⟩ := h
      obtain ⟨c, fz, ⟨hc1, hc2⟩, hz, rfl⟩ := ho
      rw [← Nat.eq_of_beq_eq_true h1, ← stEq_eq h2]
      have hpos : 0 < (f0 :: fr).length := by simp
      have h0 : 0 ≤ n := by
        rcases Int.lt_or_le n 0 with hlt | hge
        · have := Int.mul_neg_of_neg_of_pos hlt (show (0 : Int) < ((f0 :: fr).length : Int) by omega); omega
        · exact hge
      obtain ⟨N, rfl⟩ := Int.eq_ofNat_of_zero_le h0
      have hN : N * (f0 :: fr).length = xs.length := by exact_mod_cast hn
      have hdiv : xs.length / (f0 :: fr).length = N := by rw [← hN]; exact Nat.mul_div_cancel _ hpos
      rw [hdiv] at h
      refine ⟨c, fz, ⟨h0, by rw [Int.toNat_natCast, hN]; exact hc1, fun a j fc ha hj => ?_⟩, hz, rfl⟩
      rw [Int.toNat_natCast] at ha
      obtain ⟨v, hv, e1, e2⟩ := eqRows_get h a j fc ha hj
      have := (hc2 _ v hv).resolve_left e1
      rw [this, e2 η]; simp
    · cases h
  · rename_i m gs t tl n fs u ul
    split at h
    · rename_i h1 h2
      obtain ⟨rfl, h⟩ := h
      obtain ⟨c, fz, ⟨g0, g1, g2⟩, hz, rfl⟩ := ho
      rw [← Nat.eq_of_beq_eq_true h1, ← stEq_eq h2]
      obtain ⟨e1, e2⟩ := eqFCs_get h
      refine ⟨c, fz, ⟨g0, by rw [← e1]; exact g1, fun a j fc ha hj => ?_⟩, hz, rfl⟩
      obtain ⟨gc, k1, k2⟩ := e2 j fc hj
      rw [← e1, g2 a j gc ha k1, k2 _ (by omega) (by omega)]
    · cases h
  · split at h
    · rename_i h1 h2
      obtain ⟨c, fz, hc, hz, rfl⟩ := ho
      rw [← Nat.eq_of_beq_eq_true h1, ← stEq_eq h2]
      exact ⟨c, fz, leV_LRelT h hc, hz, rfl⟩
    · cases h
  · split at h
    · rename_i h1 h2 h3
      obtain ⟨hv, ha, hb⟩ := h
      obtain ⟨fn, tmps, hl, rfl⟩ := ho
      have e1 := lsEq_eq h1
      have e2 := Array.toList_inj.1 (eqNs_eq h2)
      have e3 := Nat.eq_of_beq_eq_true h3
      unfold sameCode at ha hb
      subst e1 e2 e3 ha hb
      exact ⟨fn, tmps, leV_LRel hv hl, rfl⟩
    · cases h
  · exact ho
  · cases h

theorem leH_get : ∀ {xs ys : Hp}, leH xs ys → ∀ {i : Nat} {b : SBk}, hget ys i = some b → ∃ b', hget xs i = some b' ∧ leB b' b
  | _, [], _, i, b, hb => by simp [hget] at hb
  | [], none :: ys, h, i, b, hb => by simp [leH] at h
  | [], some y :: ys, h, i, b, hb => by simp [leH] at h
  | x :: xs, none :: ys, h, 0, b, hb => by simp [hget] at hb
  | x :: xs, none :: ys, h, i + 1, b, hb => by
    have h' : leH xs ys := by cases x <;> simpa [leH] using h
    obtain ⟨b', h1, h2⟩ := leH_get h' (i := i) (b := b) (by simpa [hget] using hb)
    exact ⟨b', by simpa [hget] using h1, h2⟩
  | none :: xs, some y :: ys, h, i, b, hb => by simp [leH] at h
  | some x :: xs, some y :: ys, h, 0, b, hb => by
    simp only [leH] at h
    simp [hget] at hb; subst hb
    exact ⟨x, by simp [hget], h.1⟩
  | some x :: xs, some y :: ys, h, i + 1, b, hb => by
    simp only [leH] at h
    obtain ⟨b', h1, h2⟩ := leH_get h.2 (i := i) (b := b) (by simpa [hget] using hb)
    exact ⟨b', by simpa [hget] using h1, h2⟩

theorem leS0_rel {w0 : World} {E : Ent} {η : Nat → Nat} {S T : St} {a : Act} {w : World} {lo : Nat} (hlo : E.n = lo) (h : leS0 lo S T) (hS : RelS w0 E η S a w) : RelS w0 E η T a w := by
  unfold leS0 at h
  split at h
  · rename_i h2 h5 h6
    obtain ⟨h1, h4⟩ := h
    have h2 := eqNs_eq h2
    have h5 := Nat.le_of_ble_eq_true h5
    refine ⟨?_, leV_LRel h1 hS.ts, by rw [hS.df, h2], allLt_mem h6, ?_⟩
    · refine ⟨hS.hr.base, fun i b hb => ?_, fun i b hb => ?_, fun i j bi bj hi hj e => ?_⟩
      · obtain ⟨b', hb', _⟩ := leH_get h4 hb; exact hS.hr.hi i b' hb'
      · obtain ⟨b', hb', hl⟩ := leH_get h4 hb
        obtain ⟨o, ho, hr⟩ := hS.hr.cell i b' hb'
        exact ⟨o, ho, leB_rel hl hr⟩
      · obtain ⟨b', hb', _⟩ := leH_get h4 hi
        obtain ⟨b'', hb'', _⟩ := leH_get h4 hj
        exact hS.hr.inj i j _ _ hb' hb'' e
    · have po := hS.po
      refine ⟨po.ext, by omega, fun i b hb hi => ?_, fun i b hb hi => ?_, po.os, po.tape, po.output, po.grow, po.oth⟩
      · obtain ⟨b', hb', _⟩ := leH_get h4 hb; exact po.dom i b' hb' hi
      · obtain ⟨b', hb', _⟩ := leH_get h4 hb; exact po.fresh i b' hb' hi
  · exact h.elim

theorem swN_eq (x y i : Nat) : swN x y i = if i = x then y else if i = y then x else i := by
  unfold swN
  split
  · rename_i h; rw [if_pos (Nat.eq_of_beq_eq_true h)]
  · rename_i h
    rw [if_neg (Nat.ne_of_beq_eq_false h)]
    split
    · rename_i h; rw [if_pos (Nat.eq_of_beq_eq_true h)]
    · rename_i h; rw [if_neg (Nat.ne_of_beq_eq_false h)]
theorem swN_swN (x y i : Nat) : swN x y (swN x y i) = i := by
  simp only [swN_eq]
  by_cases h : i = x
  · subst h
    by_cases h2 : y = i
    · simp [h2]
    · simp [h2]
  · by_cases h2 : i = y
    · subst h2; simp
    · simp [h, h2]
theorem swN_inj {x y i j : Nat} (h : swN x y i = swN x y j) : i = j := by
  have := congrArg (swN x y) h
  rwa [swN_swN, swN_swN] at this
theorem swN_out {x y i : Nat} (h1 : i ≠ x) (h2 : i ≠ y) : swN x y i = i := by rw [swN_eq, if_neg h1, if_neg h2]
theorem renC_den (x y : Nat) (η : Nat → Nat) (c : SN) : (renC x y c).den (fun i => η (swN x y i)) = c.den η := by
  cases c <;> simp [renC, SN.den, swN_swN]
theorem renT_ok {x y : Nat} {η : Nat → Nat} {len size : Nat} {t : ST} (h : t.ok η len size) : (renT x y t).ok (fun i => η (swN x y i)) len size := by
  cases t with
  | full => exact h
  | ltr k z => simp only [renT, ST.ok, swN_swN] at h ⊢; exact h
mutual
theorem renV_den (x y : Nat) (η : Nat → Nat) : ∀ v : SV, (renV x y v).den (fun i => η (swN x y i)) = v.den η
  | .any => rfl
  | .bool _ => rfl
  | .int _ _ => rfl
  | .str _ => rfl
  | .ptr b o => by simp only [renV, SV.den, swN_swN]
  | .slice b o l c => by simp only [renV, SV.den, swN_swN, renC_den]
  | .fn f cs => by simp only [renV, SV.den, renVs_den x y η cs]
  | .mth f cs => by simp only [renV, SV.den, renVs_den x y η cs]
  | .yld b => by simp only [renV, SV.den, swN_swN]
  | .agg cs => by simp only [renV, SV.den, renVs_den x y η cs]
  | .tup cs => by simp only [renV, SV.den, renVs_den x y η cs]
  | .val _ => rfl
  | .fsl b n c => by simp only [renV, SV.den, swN_swN, renC_den]
  | .osl b o z n c => by simp only [renV, SV.den, swN_swN]
  | .fptr b i z o => by simp only [renV, SV.den, swN_swN]
  | .bsl _ _ _ _ => rfl
  | .bptr _ _ _ _ => rfl
theorem renVs_den (x y : Nat) (η : Nat → Nat) : ∀ l : List SV, SV.dens (fun i => η (swN x y i)) (renVs x y l) = SV.dens η l
  | [] => rfl
  | c :: r => by simp only [renVs, SV.dens, renV_den x y η c, renVs_den x y η r]
end
theorem renVs_get {x y : Nat} : ∀ {l : List SV} {i : Nat} {v : SV}, (renVs x y l)[i]? = some v → ∃ u, l[i]? = some u ∧ v = renV x y u
  | [], i, v, h => by simp [renVs] at h
  | c :: r, 0, v, h => by simp [renVs] at h; exact ⟨c, rfl, h.symm⟩
  | c :: r, i + 1, v, h => by
    obtain ⟨u, h1, h2⟩ := renVs_get (l := r) (i := i) (v := v) (by simpa [renVs] using h)
    exact ⟨u, by simpa using h1, h2⟩
theorem renVs_length (x y : Nat) : ∀ l : List SV, (renVs x y l).length = l.length
  | [] => rfl
  | c :: r => by simp [renVs, renVs_length x y r]
theorem renVs_pt {x y : Nat} {η : Nat → Nat} {l : List SV} {a : Nat → Option Value} (h : ∀ (i : Nat) (v : SV), l[i]? = some v → v = .any ∨ a i = some (v.den η)) :
    ∀ (i : Nat) (v : SV), (renVs x y l)[i]? = some v → v = .any ∨ a i = some (v.den fun i => η (swN x y i)) := fun i v hv => by
  obtain ⟨u, h1, rfl⟩ := renVs_get hv
  rcases h i u h1 with rfl | e
  · exact .inl rfl
  · exact .inr (by rw [e, renV_den])
theorem renB_rel {x y : Nat} {η : Nat → Nat} {b : SBk} {o : Obj} (h : b.Rel η o) : (renB x y b).Rel (fun i => η (swN x y i)) o := by
  cases b with
  | cells cs ty tl =>
    obtain ⟨c, fz, ⟨h1, h2⟩, hz, rfl⟩ := h
    exact ⟨c, fz, ⟨by rw [renVs_length]; exact renT_ok h1, renVs_pt (a := fun i => c[i]?) h2⟩, hz, rfl⟩
  | loop st pe ts ps asg body db =>
    obtain ⟨fn, tmps, ⟨h1, h2⟩, rfl⟩ := h
    exact ⟨fn, tmps, ⟨by rw [renVs_length]; exact h1, renVs_pt (a := fun i => tmps[i]?) h2⟩, by simp only [swN_swN]⟩
  | dfr => exact h
  | fblk n fs ty tl =>
    obtain ⟨c, fz, ⟨h0, h1, h2⟩, hz, rfl⟩ := h
    exact ⟨c, fz, ⟨h0, renT_ok h1, h2⟩, hz, rfl⟩
theorem renH_get (x y : Nat) : ∀ (hp : Hp) (i : Nat), hget (renH x y hp) i = (hget hp i).map (renB x y)
  | [], i => rfl
  | none :: r, 0 => rfl
  | some b :: r, 0 => rfl
  | none :: r, i + 1 => renH_get x y r i
  | some b :: r, i + 1 => renH_get x y r i
theorem renH_length (x y : Nat) : ∀ hp : Hp, (renH x y hp).length = hp.length
  | [] => rfl
  | none :: r => by simp [renH, renH_length x y r]
  | some b :: r => by simp [renH, renH_length x y r]
theorem swH_length (x y : Nat) (hp : Hp) : (swH x y hp).length = hp.length := by simp [swH, renH_length]
theorem swH_get {x y : Nat} {hp : Hp} (hx : x < hp.length) (hy : y < hp.length) (i : Nat) : hget (swH x y hp) i = (hget hp (swN x y i)).map (renB x y) := by
  unfold swH
  rw [renH_get, hget_hput (by simpa using hy), hget_hput hx, swN_eq]
  congr 1
  by_cases h : i = y
  · subst h
    rw [if_pos rfl]
    by_cases h2 : i = x
    · subst h2; simp
    · simp [h2]
  · rw [if_neg h]
    by_cases h2 : i = x
    · simp [h2]
    · simp [h, h2]
theorem swL_eq (x y : Nat) : ∀ l : List Nat, swL x y l = l.map (swN x y)
  | [] => rfl
  | d :: r => by simp [swL, swL_eq x y r]
theorem sw_rel {w0 : World} {E : Ent} {η : Nat → Nat} {S : St} {a : Act} {w : World} {lo x y : Nat} (hlo : E.n = lo) (hx : lo ≤ x) (hy : lo ≤ y) (hx' : x < S.hp.length) (hy' : y < S.hp.length) (hS : RelS w0 E η S a w) :
    RelS w0 E (fun i => η (swN x y i)) ⟨renVs x y S.ts, swL x y S.df, swH x y S.hp⟩ a w := by
  have hg : ∀ i b, hget (swH x y S.hp) i = some b → ∃ b0, hget S.hp (swN x y i) = some b0 ∧ b = renB x y b0 := fun i b hb => by
    rw [swH_get hx' hy'] at hb
    cases h : hget S.hp (swN x y i) with
    | none => rw [h] at hb; simp at hb
    | some b0 => rw [h] at hb; simp at hb; exact ⟨b0, rfl, hb.symm⟩
  have low : ∀ i, i < E.n → swN x y i = i := fun i hi => swN_out (by omega) (by omega)
  refine ⟨⟨hS.hr.base, fun i b hb => ?_, fun i b hb => ?_, fun i j bi bj hi hj e => ?_⟩, ⟨by rw [renVs_length]; exact hS.ts.1, renVs_pt (a := fun i => a.tmps[i]?) hS.ts.2⟩, ?_, fun d hd => ?_, ?_⟩
  · obtain ⟨b0, h0, _⟩ := hg i b hb; exact hS.hr.hi _ b0 h0
  · obtain ⟨b0, h0, rfl⟩ := hg i b hb
    obtain ⟨o, ho, hr⟩ := hS.hr.cell _ b0 h0
    exact ⟨o, ho, renB_rel hr⟩
  · obtain ⟨b0, h0, _⟩ := hg i bi hi
    obtain ⟨c0, k0, _⟩ := hg j bj hj
    exact swN_inj (hS.hr.inj _ _ _ _ h0 k0 e)
  · rw [hS.df]
    simp only [dfs, swL_eq, List.map_map]
    apply List.map_congr_left
    intro d _
    simp [swN_swN]
  · simp only [swL_eq] at hd
    obtain ⟨d0, hd0, rfl⟩ := List.mem_map.1 hd
    have := hS.dfl d0 hd0
    simp only [swH_length]
    rw [swN_eq]
    split
    · exact hy'
    · split
      · exact hx'
      · exact this
  · have po := hS.po
    refine ⟨fun i hi => by rw [low i hi]; exact po.ext i hi, by rw [swH_length]; exact po.len, fun i b hb hi => ?_, fun i b hb hi => ?_, po.os, po.tape, po.output, po.grow, fun r hr hn => po.oth r hr hn⟩
    · obtain ⟨b0, h0, _⟩ := hg i b hb
      rw [low i hi] at h0
      exact po.dom i b0 h0 hi
    · obtain ⟨b0, h0, _⟩ := hg i b hb
      refine po.fresh _ b0 h0 ?_
      rw [swN_eq]
      split
      · omega
      · split <;> omega
theorem fstMis_lt {lo n : Nat} : ∀ {l : List (Nat × Nat)} {a b : Nat}, fstMis lo n l = some (a, b) → (lo ≤ a ∧ lo ≤ b) ∧ a < n ∧ b < n
  | [], a, b, h => by cases h
  | (x, y) :: r, a, b, h => by
    simp only [fstMis] at h
    split at h
    · rename_i h1 h2 h3 h4 h5
      injection h with h; injection h with e1 e2; subst e1; subst e2
      exact ⟨⟨Nat.le_of_ble_eq_true h2, Nat.le_of_ble_eq_true h3⟩, by simpa [Nat.blt_eq] using h4, by simpa [Nat.blt_eq] using h5⟩
    · exact fstMis_lt h
theorem renS_rel {w0 : World} {E : Ent} {a : Act} {w : World} {lo : Nat} (hlo : E.n = lo) {T : St} : ∀ (k : Nat) {η : Nat → Nat} {S : St}, RelS w0 E η S a w → ∃ η', RelS w0 E η' (renS lo k S T) a w
  | 0, η, S, hS => ⟨η, hS⟩
  | k + 1, η, S, hS => by
    simp only [renS]
    split
    · exact ⟨η, hS⟩
    · rename_i x y h
      obtain ⟨⟨h1, h2⟩, h3, h4⟩ := fstMis_lt h
      exact renS_rel hlo k (sw_rel hlo h1 h2 h3 h4 hS)
theorem leS_rel {w0 : World} {E : Ent} {η : Nat → Nat} {S T : St} {a : Act} {w : World} {lo : Nat} (hlo : E.n = lo) (h : leS lo S T) (hS : RelS w0 E η S a w) : ∃ η', RelS w0 E η' T a w := by
  obtain ⟨η', h'⟩ := renS_rel (T := T) hlo 8 hS
  exact ⟨η', leS0_rel hlo h h'⟩

theorem stepR_scope {P : Program} {b : Frame} {a : Act} {k : List Item} {cs : List Frame} {w : World} {c : Code} :
    step P (lone (b.atR a (.code (.scope c) :: k)) cs w) = .next (lone (b.atR a (.code c :: .inScope c :: k)) cs w) :=
  step_lone_go (by simp [stepG, stepG.exec, Frame.atR])
theorem stepR_inScope {P : Program} {b : Frame} {a : Act} {k : List Item} {cs : List Frame} {w : World} {c : Code} :
    step P (lone (b.atR a (.inScope c :: k)) cs w) = .next (lone (b.atR a k) cs w) :=
  step_lone_go (by simp [stepG, stepG.exec, Frame.atR])

theorem wpIn_scope {F : Fence} {n : Nat} {P : Program} {c : Code} {Q : Exit → Act → World → Prop} {a : Act} {w : World} (hq : ∀ l a w, ¬ Q (.goto l) a w) (h : c.wpIn F n P Q a w) : (Code.scope c).wpIn F n P Q a w := by
  intro b k cs hro hb hr
  have h0 : (lone (b.atR a (.code (.scope c) :: k)) cs w).fenced P F := fenced_calm hb hr rfl
  obtain ⟨e, a₁, w₁, hq1, harr⟩ := h b (.inScope c :: k) cs hro hb hr
  cases e with
  | normal => exact ⟨.normal, a₁, w₁, hq1, .head h0 stepR_scope (StepsIn.trans harr (.one (fenced_calm hb hr rfl) stepR_inScope))⟩
  | exit id =>
    have hx : exitTo id (.inScope c :: k) = exitTo id k := by simp [exitTo]
    exact ⟨.exit id, a₁, w₁, hq1, fun k' hk => .head h0 stepR_scope (harr.1 k' (by rw [hx]; exact hk)), fun hr' hk => let ⟨k₁, h1, h2⟩ := harr.2 hr' (by rw [hx]; exact hk); ⟨k₁, h1, .head h0 stepR_scope h2⟩⟩
  | goto l => exact absurd hq1 (hq l a₁ w₁)
  | ret => exact ⟨_, a₁, w₁, hq1, .of_steps (.one h0 stepR_scope) harr⟩
  | panic ch => exact ⟨_, a₁, w₁, hq1, .of_steps (.one h0 stepR_scope) harr⟩
  | outgrown => exact ⟨_, a₁, w₁, hq1, .of_steps (.one h0 stepR_scope) harr⟩

theorem run_callFunc {G : Glob} (hG : GOk G) {f : FuncId} (h : hasBody G.P f = true) (args : Array Value) (w : World) : (callFunc f args).run G.P w = .ok (.enter f args) w := by
  unfold hasBody at h
  split at h
  · rename_i fn hf
    have hn := hG.names f fn hf
    have hb : fn.body.isNone = false := by cases hb : fn.body <;> simp_all
    simp only [callFunc, program, bind, Sem.bind, pure, Sem.run, hf, hn, hb, Bool.false_eq_true, if_false]
  · cases h

theorem done_mono {G : Glob} {cx : Cx} {S S' : St} {c : Code} {e : Exit} {E : Ent} {η : Nat → Nat} {a : Act} {w : World} (hd : Done G cx S c e S') (hE : E.n = cx.lo) (hS : RelS G.w0 E η S a w)
    {Q : Exit → Act → World → Prop} (hQ : ∀ η' a' w', RelS G.w0 E η' S' a' w' → Q e a' w') : c.wpIn (fnc cx.rd E.η) 0 G.P Q a w :=
  wpIn_mono (hd E hE η a w hS) (fun e' a' w' ⟨h1, η', h2⟩ => by subst h1; exact hQ η' a' w' h2)

theorem entered {w0 : World} {E : Ent} {η : Nat → Nat} {S : St} {a : Act} {w : World} (hS : RelS w0 E η S a w) {rd : Option Nat} (hrd : ∀ b, rd = some b → b < E.n) : fnc rd E.η = fnc rd η := by
  cases rd with
  | none => rfl
  | some b => simp only [fnc]; rw [hS.po.ext b (hrd b rfl)]

theorem orEq_mem {x : Int} : ∀ {l : List Int}, orEq x l → x ∈ l
  | [], h => h.elim
  | v :: r, h => by
    rcases h with h | h
    · exact h ▸ List.mem_cons_self
    · exact List.mem_cons_of_mem _ (orEq_mem h)
theorem eachV_mem {x : Int} {K : Int → Prop} : ∀ {l : List Int}, eachV x K l → x ∈ l → K x
  | [], _, hm => by cases hm
  | v :: r, h, hm => by
    rcases List.mem_cons.1 hm with e | e
    · subst e; exact h.1 rfl
    · exact eachV_mem h.2 e
theorem RelS.reblock {w0 : World} {E : Ent} {η : Nat → Nat} {S : St} {a : Act} {w : World} (hS : RelS w0 E η S a w) {b : Nat} {bk nb : SBk} (hb : hget S.hp b = some bk) (hr : ∀ o, bk.Rel η o → nb.Rel η o) : RelS w0 E η ⟨S.ts, S.df, hput S.hp b (some nb)⟩ a w := by
  have hlt := hget_some_lt hb
  have hg : ∀ i b', hget (hput S.hp b (some nb)) i = some b' → ∃ b0, hget S.hp i = some b0 ∧ ∀ o, b0.Rel η o → b'.Rel η o := by
    intro i b' hb'
    rw [hget_hput hlt] at hb'
    split at hb'
    · rename_i e; subst e
      injection hb' with hb'; subst hb'
      exact ⟨bk, hb, hr⟩
    · exact ⟨b', hb', fun _ h => h⟩
  refine ⟨⟨hS.hr.base, fun i b' hb' => ?_, fun i b' hb' => ?_, fun i j bi bj hi hj e => ?_⟩, hS.ts, hS.df, ?_, ?_⟩
  · obtain ⟨b0, h0, _⟩ := hg i b' hb'; exact hS.hr.hi i b0 h0
  · obtain ⟨b0, h0, h1⟩ := hg i b' hb'
    obtain ⟨o, ho, hr⟩ := hS.hr.cell i b0 h0
    exact ⟨o, ho, h1 o hr⟩
  · obtain ⟨b0, h0, _⟩ := hg i bi hi
    obtain ⟨b1, h1, _⟩ := hg j bj hj
    exact hS.hr.inj i j _ _ h0 h1 e
  · intro d hd; simpa using hS.dfl d hd
  · have po := hS.po
    refine ⟨po.ext, by simpa using po.len, fun i b' hb' hi => ?_, fun i b' hb' hi => ?_, po.os, po.tape, po.output, po.grow, po.oth⟩
    · obtain ⟨b0, h0, _⟩ := hg i b' hb'; exact po.dom i b0 h0 hi
    · obtain ⟨b0, h0, _⟩ := hg i b' hb'; exact po.fresh i b0 h0 hi
theorem RelS.retmp {w0 : World} {E : Ent} {η : Nat → Nat} {S : St} {a : Act} {w : World} (hS : RelS w0 E η S a w) {t : Nat} {v v' : SV} (hx : nth S.ts t = v) (hn : v ≠ .any) (hd : v'.den η = v.den η) : RelS w0 E η ⟨put S.ts t v', S.df, S.hp⟩ a w := by
  refine ⟨hS.hr, ?_, hS.df, hS.dfl, hS.po⟩
  have hv := hS.ts.nth (i := t) hx hn
  have := hS.ts.put t (v := v') (x := v'.den η) (.inr rfl)
  have e : a.tmps.setIfInBounds t (v'.den η) = a.tmps := by
    apply Array.ext_getElem?
    intro i
    rw [Array.getElem?_setIfInBounds]
    split
    · rename_i hi; subst hi
      split
      · rw [hd]; exact hv.symm
      · rename_i hlt; rw [Array.getElem?_eq_none (by omega)]
    · rfl
  rwa [e] at this
theorem fcSV_den (η : Nat → Nat) (i : Int) (fc : FC) : (fcSV i fc).den η = fc.val i := by cases fc <;> rfl
theorem rowSV_len (fc : FC) : ∀ n i : Nat, (rowSV fc i n).length = n
  | 0, _ => rfl
  | n + 1, i => by simp [rowSV, rowSV_len fc n]
theorem rowSV_get (fc : FC) : ∀ (n i j : Nat) (v : SV), (rowSV fc i n)[j]? = some v → j < n ∧ v = fcSV (Int.ofNat (i + j)) fc
  | 0, _, _, _, h => by simp [rowSV] at h
  | n + 1, i, 0, v, h => by simp only [rowSV, List.getElem?_cons_zero, Option.some.injEq] at h; exact ⟨by omega, h.symm⟩
  | n + 1, i, j + 1, v, h => by
    simp only [rowSV, List.getElem?_cons_succ] at h
    obtain ⟨h1, h2⟩ := rowSV_get fc n (i + 1) j v h
    exact ⟨by omega, by rw [h2, show i + 1 + j = i + (j + 1) by omega]⟩
theorem splitS_sound : ∀ {l : List (Tmp × List Int)} {S : St} {K : St → Prop}, splitS l S K → ∃ S', K S' ∧ ∀ w0 E η a w, RelS w0 E η S a w → RelS w0 E η S' a w
  | [], S, K, h => ⟨S, h, fun _ _ _ _ _ h => h⟩
  | (t, vals) :: r, S, K, h => by
    simp only [splitS, putF_eq] at h
    split at h
    · rename_i k x hx
      have h1 := eachV_mem h.2 (orEq_mem h.1)
      obtain ⟨S', hK, hs⟩ := splitS_sound h1
      refine ⟨S', hK, fun w0 E η a w hS => hs w0 E η a w ⟨hS.hr, ?_, hS.df, hS.dfl, hS.po⟩⟩
      have hv := hS.ts.nth (i := t) hx (by simp)
      have := hS.ts.put t (v := .int k (.lit x)) (x := .int k x) (.inr rfl)
      have e : a.tmps.setIfInBounds t (.int k x) = a.tmps := by
        apply Array.ext_getElem?
        intro i
        rw [Array.getElem?_setIfInBounds]
        split
        · rename_i hi; subst hi
          split
          · exact hv.symm
          · rename_i hlt; rw [Array.getElem?_eq_none (by omega)]
        · rfl
      rwa [e] at this
    · exact splitS_sound h
    · rename_i b n c hx
      split at h
      · rename_i m fc ty tl hb
        obtain ⟨⟨hmn, ho⟩, h⟩ := h
        have h1 := eachV_mem h (orEq_mem ho)
        obtain ⟨S', hK, hs⟩ := splitS_sound h1
        refine ⟨S', hK, fun w0 E η a w hS => hs w0 E η a w ?_⟩
        have h2 : RelS w0 E η ⟨S.ts, S.df, hput S.hp b (some (.cells (rowSV fc 0 n.toNat) ty tl))⟩ a w := hS.reblock hb fun o hr => by
          obtain ⟨c', fz, ⟨_, hc, hf⟩, hz, rfl⟩ := hr
          subst hmn
          refine ⟨c', fz, ⟨?_, fun j v hv => ?_⟩, hz, rfl⟩
          · rw [rowSV_len]; simpa using hc
          · obtain ⟨hj, rfl⟩ := rowSV_get fc _ _ _ _ hv
            right
            have := hf j 0 fc hj rfl
            rw [fcSV_den]
            simpa using this
        exact h2.retmp (t := t) hx (by simp) rfl
      · cases h
    · cases h

theorem kindFCs_len : ∀ {z : Nat} {cs : List SV} {gs : List FC}, kindFCs z cs = some gs → gs.length = z
  | 0, cs, gs, h => by simp only [kindFCs, Option.some.injEq] at h; subst h; rfl
  | z + 1, [], gs, h => by simp [kindFCs] at h
  | z + 1, v :: r, gs, h => by
    simp only [kindFCs] at h
    split at h
    · rename_i f l hf hl
      injection h with h; subst h
      simp [kindFCs_len hl]
    · cases h
theorem reshape_sound : ∀ {l : List (Nat × Nat)} {S : St} {K : St → Prop}, reshape l S K → ∃ S', K S' ∧ ∀ w0 E η a w, RelS w0 E η S a w → RelS w0 E η S' a w
  | [], S, K, h => ⟨S, h, fun _ _ _ _ _ h => h⟩
  | (t, z) :: r, S, K, h => by
    simp only [reshape] at h
    split at h
    · rename_i b hx
      split at h
      · rename_i cs ty tl hb
        split at h
        · rename_i gs z0 z1 hk
          have z0 := Nat.ne_of_beq_eq_false z0
          have z1 := Nat.eq_of_beq_eq_true z1
          split at h
          · rename_i fs hfs
            have h := nmFCs_sound h
            obtain ⟨S', hK, hs⟩ := reshape_sound h
            obtain ⟨fl, fv⟩ := colFCs_sound hfs
            have hgl := kindFCs_len hk
            refine ⟨S', hK, fun w0 E η a w hS => hs w0 E η a w (hS.reblock hb fun o ho => ?_)⟩
            obtain ⟨c, fz, hc, hz, rfl⟩ := ho
            refine ⟨c, fz, ⟨Int.natCast_nonneg _, ?_, fun i j fc hi hj => ?_⟩, hz, rfl⟩
            · rw [Int.toNat_natCast, fl, hgl, z1]; exact hc.1
            · rw [Int.toNat_natCast] at hi
              obtain ⟨v, v1, v2, v3⟩ := fv j fc hj i hi
              rw [Nat.zero_add] at v1
              rw [fl, hgl]
              rcases hc.2 _ v v1 with e | e
              · exact absurd e v2
              · rw [e, v3]
          · cases h
        · cases h
      · cases h
    · cases h

theorem exCode_sound {G : Glob} (hG : GOk G) {r : Rec} (hr : RecOk G r) : ∀ (c : Code) (cx : Cx) (S : St) (K : Exit → St → Prop), cxOk cx → exCode G r cx c S K →
    ∃ e S', K e S' ∧ okE e ∧ Done G cx S c e S' := by
  intro c
  induction c with
  | skip => exact fun cx S K hcx h => ⟨.normal, S, h, trivial, fun E hE η a w hS => wpIn_skip ⟨rfl, η, hS⟩⟩
  | label l => exact fun cx S K hcx h => ⟨.normal, S, h, trivial, fun E hE η a w hS => wpIn_label ⟨rfl, η, hS⟩⟩
  | exit id => exact fun cx S K hcx h => ⟨.exit id, S, h, trivial, fun E hE η a w hS => wpIn_exit ⟨rfl, η, hS⟩⟩
  | ret => exact fun cx S K hcx h => ⟨.ret, S, h, trivial, fun E hE η a w hS => wpIn_ret ⟨rfl, η, hS⟩⟩
  | goto l => exact fun cx S K hcx h => by simp [exCode] at h
  | refuse l => exact fun cx S K hcx h => by simp [exCode] at h
  | region id ops draw =>
    intro cx S K hcx h
    cases draw with
    | false =>
      simp only [exCode] at h
      split at h
      · exact h.elim
      obtain ⟨S', hK, hdf, hrow⟩ := exOps_sound hr (cx := cx) ops.toList 0 S _ h (by simp)
      obtain ⟨S'', hK, hsp⟩ := splitS_sound hK
      obtain ⟨S3, hK, hsh⟩ := reshape_sound hK
      refine ⟨.normal, S3, hK, trivial, fun E hE η a w hS => wpIn_region ?_⟩
      have := hrow E (fnc cx.rd E.η) (fnc_wide cx.rd E.η) η a w hS (fun e' a' w' => e' = Exit.normal ∧ ∃ η', RelS G.w0 E η' S3 a' w') (fun η' a' w' h => ⟨rfl, η', hsh _ _ _ _ _ (hsp _ _ _ _ _ h)⟩)
      rw [List.range_eq_range']
      simpa using this
    | true =>
      simp only [exCode] at h
      split at h
      · rename_i h1 h2 h3
        obtain ⟨S', hK, hd⟩ := exDraw_sound hG hr h h1 h2
        obtain ⟨S'', hK, hsp⟩ := splitS_sound hK
        obtain ⟨S3, hK, hsh⟩ := reshape_sound hK
        refine ⟨.normal, S3, hK, trivial, fun E hE η a w hS => wpIn_region_any hG.orders ?_⟩
        exact hd E _ (fnc_wide cx.rd E.η) η a w hS _ (fun η' a' w' h => ⟨rfl, η', hsh _ _ _ _ _ (hsp _ _ _ _ _ h)⟩)
      · cases h
  | seq x y ihx ihy =>
    intro cx S K hcx h
    simp only [exCode] at h
    obtain ⟨e1, S1, hK, ok1, hd1⟩ := ihx cx S _ hcx h
    split at hK
    · obtain ⟨e2, S2, hK2, ok2, hd2⟩ := ihy cx S1 K hcx hK
      exact ⟨e2, S2, hK2, ok2, fun E hE η a w hS => wpIn_seq (done_mono hd1 hE hS fun η' a' w' hS' => hd2 E hE η' a' w' hS')⟩
    · rename_i hne
      refine ⟨e1, S1, hK, ok1, fun E hE η a w hS => wpIn_seq (done_mono hd1 hE hS fun η' a' w' hS' => ?_)⟩
      cases e1 <;> first | exact absurd rfl hne | exact ⟨rfl, η', hS'⟩
  | cond c t e iht ihe =>
    intro cx S K hcx h
    have hev : ∀ (b : SB), evo S.ts c = .bool b → ∀ E η a w, RelS G.w0 E η S a w → a.eval c = .bool b.val := fun b hb E η a w hS => by
      rw [evo_rel hS.ts (by rw [hb]; rfl), hb]; rfl
    have plain : ∀ (K : Exit → St → Prop), condK (G.fix cx.fn) c S (fun S1 => exCode G r cx t S1 K) (fun S1 => exCode G r cx e S1 K) → ∃ e1 S', K e1 S' ∧ okE e1 ∧ Done G cx S (.cond c t e) e1 S' := by
      intro K h
      unfold condK at h
      split at h
      · rename_i hc
        obtain ⟨e1, S1, hK, ok1, hd1⟩ := iht cx S K hcx h
        exact ⟨e1, S1, hK, ok1, fun E hE η a w hS => wpIn_cond_true (hev _ hc E η a w hS) (hd1 E hE η a w hS)⟩
      · rename_i hc
        obtain ⟨e1, S1, hK, ok1, hd1⟩ := ihe cx S K hcx h
        exact ⟨e1, S1, hK, ok1, fun E hE η a w hS => wpIn_cond_false (hev _ hc E η a w hS) (hd1 E hE η a w hS)⟩
      · rename_i b hc
        split at h
        · rename_i d
          simp only [putF_eq] at h
          have h := askK_both h
          cases b with
          | true =>
            obtain ⟨e1, S1, hK, ok1, hd1⟩ := iht cx _ K hcx (h.1 rfl)
            exact ⟨e1, S1, hK, ok1, fun E hE η a w hS => wpIn_cond_true (hev _ hc E η a w hS) (hd1 E hE η a w (lit_rel hS hc rfl))⟩
          | false =>
            obtain ⟨e1, S1, hK, ok1, hd1⟩ := ihe cx _ K hcx (h.2 rfl)
            exact ⟨e1, S1, hK, ok1, fun E hE η a w hS => wpIn_cond_false (hev _ hc E η a w hS) (hd1 E hE η a w (lit_rel hS hc rfl))⟩
        · cases h
      · cases h
    simp only [exCode, forceS_eq] at h
    split at h
    · exact plain K h
    · rename_i mk hmk
      obtain ⟨h, hall⟩ := h
      obtain ⟨e1, S1, hK, ok1, hd1⟩ := plain _ h
      cases e1 with
      | normal =>
        obtain ⟨i, hR, hle⟩ := hK
        exact ⟨.normal, (mk S).T i, hall i hR, trivial, fun E hE η a w hS => wpIn_mono (hd1 E hE η a w hS) (fun e' a' w' ⟨h1, η', h2⟩ => by subst h1; exact ⟨rfl, leS_rel hE hle h2⟩)⟩
      | exit j => exact ⟨_, S1, hK, trivial, hd1⟩
      | ret => exact ⟨_, S1, hK, trivial, hd1⟩
      | goto l => exact ok1.elim
      | panic l => exact ok1.elim
      | outgrown => exact ok1.elim
  | block id c ih =>
    intro cx S K hcx h
    simp only [exCode, forceS_eq] at h
    -- out of the block
    have out : ∀ e1 S1, okE e1 → Done G { cx with blk := id } S c e1 S1 → (match e1 with | .exit j => (match Nat.beq j id with | true => K .normal S1 | false => K (.exit j) S1) | e => K e S1) →
        ∃ e S', K e S' ∧ okE e ∧ Done G cx S (.block id c) e S' := by
      intro e1 S1 ok1 hd1 hK
      cases e1 with
      | exit j =>
        simp only at hK
        split at hK
        · rename_i hj
          have hj := Nat.eq_of_beq_eq_true hj
          exact ⟨.normal, S1, hK, trivial, fun E hE η a w hS => wpIn_block (wpIn_mono (hd1 E hE η a w hS) (fun e' a' w' ⟨h1, η', h2⟩ => by subst h1; simp only [Exit.inBlock, hj, if_true]; exact ⟨trivial, η', h2⟩))⟩
        · rename_i hj
          have hj := Nat.ne_of_beq_eq_false hj
          exact ⟨.exit j, S1, hK, trivial, fun E hE η a w hS => wpIn_block (wpIn_mono (hd1 E hE η a w hS) (fun e' a' w' ⟨h1, η', h2⟩ => by subst h1; simp only [Exit.inBlock, hj, if_false]; exact ⟨trivial, η', h2⟩))⟩
      | normal => exact ⟨.normal, S1, hK, trivial, fun E hE η a w hS => wpIn_block (wpIn_mono (hd1 E hE η a w hS) (fun e' a' w' ⟨h1, η', h2⟩ => by subst h1; exact ⟨rfl, η', h2⟩))⟩
      | ret => exact ⟨.ret, S1, hK, trivial, fun E hE η a w hS => wpIn_block (wpIn_mono (hd1 E hE η a w hS) (fun e' a' w' ⟨h1, η', h2⟩ => by subst h1; exact ⟨rfl, η', h2⟩))⟩
      | goto l => exact ok1.elim
      | panic l => exact ok1.elim
      | outgrown => exact ok1.elim
    split at h
    · obtain ⟨e1, S1, hK, ok1, hd1⟩ := ih { cx with blk := id } S _ hcx h
      exact out e1 S1 ok1 hd1 hK
    · rename_i mk hmk
      obtain ⟨h, hall⟩ := h
      obtain ⟨e1, S1, hK, ok1, hd1⟩ := ih { cx with blk := id } S _ hcx h
      cases e1 with
      | normal =>
        obtain ⟨i, hR, hle⟩ := hK
        exact ⟨.normal, (mk S).T i, hall i hR, trivial, fun E hE η a w hS => wpIn_block (wpIn_mono (hd1 E hE η a w hS) (fun e' a' w' ⟨h1, η', h2⟩ => by subst h1; exact ⟨rfl, leS_rel hE hle h2⟩))⟩
      | exit j =>
        simp only at hK
        split at hK
        · rename_i hj
          have hj := Nat.eq_of_beq_eq_true hj
          obtain ⟨i, hR, hle⟩ := hK
          exact ⟨.normal, (mk S).T i, hall i hR, trivial, fun E hE η a w hS => wpIn_block (wpIn_mono (hd1 E hE η a w hS) (fun e' a' w' ⟨h1, η', h2⟩ => by subst h1; simp only [Exit.inBlock, hj, if_true]; exact ⟨trivial, leS_rel hE hle h2⟩))⟩
        · rename_i hj
          have hj := Nat.ne_of_beq_eq_false hj
          exact ⟨.exit j, S1, hK, trivial, fun E hE η a w hS => wpIn_block (wpIn_mono (hd1 E hE η a w hS) (fun e' a' w' ⟨h1, η', h2⟩ => by subst h1; simp only [Exit.inBlock, hj, if_false]; exact ⟨trivial, η', h2⟩))⟩
      | ret => exact out .ret S1 ok1 hd1 hK
      | goto l => exact ok1.elim
      | panic l => exact ok1.elim
      | outgrown => exact ok1.elim
  | loop c ih =>
    intro cx S K hcx h
    simp only [exCode, forceS_eq] at h
    split at h
    · obtain ⟨e1, S1, hK, ok1, hd1⟩ := ih cx S _ hcx h
      split at hK
      · obtain ⟨e2, S2, hK2, ok2, m, hrounds⟩ := hr.loop cx c S1 K hcx hK
        exact ⟨e2, S2, hK2, ok2, fun E hE η a w hS => wpIn_loop_rounds (m + 1) (done_mono hd1 hE hS fun η' a' w' hS' => hrounds E hE η' a' w' hS')⟩
      · rename_i hne
        refine ⟨e1, S1, hK, ok1, fun E hE η a w hS => wpIn_loop_rounds 1 (done_mono hd1 hE hS fun η' a' w' hS' => ?_)⟩
        cases e1 <;> first | exact absurd rfl hne | exact ⟨rfl, η', hS'⟩
    · rename_i mk hmk
      have held : ∀ S, ((∃ i, (mk S).R i ∧ leS cx.lo S ((mk S).T i)) ∧
        ∀ i, (mk S).R i → exCode G r cx c ((mk S).T i) fun e S' => match e with
          | .normal => ∃ j, (mk S).R j ∧ leS cx.lo S' ((mk S).T j) ∧ (mk S).μ j < (mk S).μ i
          | e => K e S') → ∃ e S', K e S' ∧ okE e ∧ ∃ m, ∀ E : Ent, E.n = cx.lo → ∀ η a w, RelS G.w0 E η S a w → Code.roundsIn (fnc cx.rd E.η) 0 G.P c (fun e' a' w' => e' = e ∧ ∃ η', RelS G.w0 E η' S' a' w') m a w := by
       intro S h
       obtain ⟨⟨i0, hR0, hle0⟩, hall⟩ := h
       have key : ∀ (n : Nat) (i : (mk S).ι), (mk S).R i → (mk S).μ i = n → ∃ e S', K e S' ∧ okE e ∧ e ≠ .normal ∧ ∃ m, ∀ E : Ent, E.n = cx.lo → ∀ η a w, RelS G.w0 E η ((mk S).T i) a w →
           Code.roundsIn (fnc cx.rd E.η) 0 G.P c (fun e' a' w' => e' = e ∧ ∃ η', RelS G.w0 E η' S' a' w') m a w := by
         intro n
         induction n using Nat.strongRecOn with
         | _ n ihn =>
           intro i hR hn
           obtain ⟨e1, S1, hK, ok1, hd1⟩ := ih cx _ _ hcx (hall i hR)
           split at hK
           · obtain ⟨j, hRj, hle, hlt⟩ := hK
             obtain ⟨e, S', hKe, oke, hne, m, hm⟩ := ihn ((mk S).μ j) (by omega) j hRj rfl
             exact ⟨e, S', hKe, oke, hne, m + 1, fun E hE η a w hS => done_mono hd1 hE hS fun η' a' w' hS' => let ⟨η2, h2⟩ := leS_rel hE hle hS'; hm E hE η2 a' w' h2⟩
           · rename_i hne
             refine ⟨e1, S1, hK, ok1, hne, 1, fun E hE η a w hS => done_mono hd1 hE hS fun η' a' w' hS' => ?_⟩
             cases e1 <;> first | exact absurd rfl hne | exact ⟨rfl, η', hS'⟩
       obtain ⟨e, S', hK, oke, _, m, hm⟩ := key _ i0 hR0 rfl
       exact ⟨e, S', hK, oke, m, fun E hE η a w hS => let ⟨η2, h2⟩ := leS_rel hE hle0 hS; hm E hE η2 a w h2⟩
      split at h
      · obtain ⟨e, S', hK, oke, m, hm⟩ := held S h
        exact ⟨e, S', hK, oke, fun E hE η a w hS => wpIn_loop_rounds m (hm E hE η a w hS)⟩
      · obtain ⟨e1, S1, hK, ok1, hd1⟩ := ih cx S _ hcx h
        split at hK
        · obtain ⟨e, S', hKe, oke, m, hm⟩ := held S1 hK
          exact ⟨e, S', hKe, oke, fun E hE η a w hS => wpIn_loop_rounds (m + 1) (done_mono hd1 hE hS fun η' a' w' hS' => hm E hE η' a' w' hS')⟩
        · rename_i hne
          refine ⟨e1, S1, hK, ok1, fun E hE η a w hS => wpIn_loop_rounds 1 (done_mono hd1 hE hS fun η' a' w' hS' => ?_)⟩
          cases e1 <;> first | exact absurd rfl hne | exact ⟨rfl, η', hS'⟩
  | rangeFunc g ps asg body iha ihb =>
    intro cx S K hcx h
    simp only [exCode, forceHp_eq] at h
    split at h
    · rename_i f cap hg
      split at h
      · rename_i h1 h2 h3
        have hev : ∀ E η a w, RelS G.w0 E η S a w → a.eval g = (SV.fn f cap).den η := fun E η a w hS => by
          rw [evo_rel hS.ts (by rw [hg]; rfl), hg]
        -- how the machine enters the function
        have enter : ∀ (η1 : Nat → Nat) (l : Nat) (b : Nat) (a : Act) (η : Nat → Nat) (w1 : World), η1 b = l → SV.dens η1 cap = SV.dens η cap → a.eval g = (SV.fn f cap).den η →
            ∃ d, (resolve a.eval (rangeCall g l) 0).run G.P w1 = .ok d w1 ∧ (invoke d.target d.args).run G.P w1 = (callFunc f (SV.dens η1 (.yld b :: cap)).toArray).run G.P w1 := by
          intro η1 l b a η w1 hb hc he
          refine ⟨{ target := .fn (.func f) (SV.dens η cap).toArray, args := #[.func (.yield l) #[] #[]] }, ?_, ?_⟩
          · have hac : a.eval (.const (.func (.yield l) #[] #[])) = .func (.yield l) #[] #[] := rfl
            simp [resolve, rangeCall, he, SV.den, Deferred.ofValue, hac]
          · simp only [invoke, SV.dens, SV.den, hb, hc]
            simp
        have hcapids : SV.allvs (ltb S.hp.length) cap = true := by
          have : (evo S.ts g).allv (ltb S.hp.length) = true := by
            cases g with
            | tmp t =>
              simp only [evo] at hg ⊢
              rw [nth_eq] at hg ⊢
              cases hl : S.ts[t]? with
              | none => rfl
              | some u => exact allvs_iff.1 h2 u (List.mem_of_getElem? hl)
            | const v => simp only [evo, ofValA] at hg; split at hg <;> first | (cases hg; done) | (unfold ofVal at hg; split at hg <;> cases hg)
            | global g => cases hg
            | func f' => simp only [evo] at hg ⊢; rfl
          rw [hg] at this; exact this
        split at h
        · -- an outermost loop
          rename_i hrd
          obtain ⟨v, hp', hK, hcall⟩ := hr.call _ _ _ _ h
          -- what lies when the function is called
          have laid : ∀ E η a w (fn : FuncId), RelS G.w0 E η S a w → ∃ η1, (∀ i, i < S.hp.length → η1 i = η i) ∧ η1 S.hp.length = w.heap.size ∧ η1 (S.hp.length + 1) = w.heap.size + 1 ∧
              HR G.w0 η1 (S.hp ++ [some .dfr, some (.loop .ready none S.ts ps asg body S.hp.length)]) ((w.alloc (.deferred (some []))).alloc (.loop { state := .ready, pending := none, fn, tmps := a.tmps, params := ps, assign := asg, body, defers := w.heap.size })) ∧
              PO η S.hp w η1 (S.hp ++ [some .dfr, some (.loop .ready none S.ts ps asg body S.hp.length)]) ((w.alloc (.deferred (some []))).alloc (.loop { state := .ready, pending := none, fn, tmps := a.tmps, params := ps, assign := asg, body, defers := w.heap.size })) := by
            intro E η a w fn hS
            obtain ⟨m1, m2⟩ := move_alloc hS.hr h1 (b := .dfr) (o := .deferred (some [])) rfl
            have hl1 : (S.hp ++ [some SBk.dfr]).length = S.hp.length + 1 := by simp
            have hok2 : okHp (ltb (S.hp ++ [some SBk.dfr]).length) (S.hp ++ [some SBk.dfr]) = true := by
              rw [hl1]
              exact okHp_append (okHp_mono (fun i hi => by rw [ltb_iff] at hi ⊢; omega) h1) rfl
            have hsz : (w.alloc (.deferred (some []))).heap.size = w.heap.size + 1 := by simp
            obtain ⟨m3, m4⟩ := move_alloc m1 hok2 (b := .loop .ready none S.ts ps asg body S.hp.length) (o := .loop { state := .ready, pending := none, fn, tmps := a.tmps, params := ps, assign := asg, body, defers := w.heap.size })
              ⟨fn, a.tmps, by
                refine hS.ts.congr (p := ltb S.hp.length) (fun i hi => ?_) h2
                have := ltb_iff.1 hi
                rw [upd_lt _ (by rw [hl1]; omega), upd_lt _ this], by
                rw [upd_lt _ (by rw [hl1]; omega), upd_same]⟩
            rw [hl1, hsz] at m3 m4
            refine ⟨_, fun i hi => ?_, ?_, ?_, by simpa using m3, by have := m2.trans m4; unfold PO; simpa using this⟩
            · rw [upd_lt _ (by omega), upd_lt _ hi]
            · rw [upd_lt _ (by omega), upd_same]
            · rw [upd_same]
          have fin : ∀ (e : Exit) (st : LoopState) (pe : Option Code) (ts1 : List SV) (ps1 : Array Tmp) (asg1 body1 : Code) (db1 : Nat), hget hp' (S.hp.length + 1) = some (.loop st pe ts1 ps1 asg1 body1 db1) → isBusy st = false →
              (∀ (Q : Exit → Act → World → Prop) F a w, Q e a w → (pe = none → Q .normal a w) ∧ (∀ c, pe = some c → c.wpIn F 0 G.P Q a w)) →
              Done G cx S (.rangeFunc g ps asg body) e { S with df := S.hp.length :: S.df, hp := hput hp' (S.hp.length + 1) (some (.loop .exhausted pe ts1 ps1 asg1 body1 db1)) } := by
            intro e st pe ts1 ps1 asg1 body1 db1 hb1 hbusy hpe E hE η a w hS
            refine wpIn_rangeFunc (fun fn hfn => ?_)
            obtain ⟨η1, x1, x2, x3, x4, x5⟩ := laid E η a w fn hS
            have hcap : SV.dens η1 cap = SV.dens η cap := dens_congr (p := ltb S.hp.length) (fun i hi => x1 i (ltb_iff.1 hi)) cap hcapids
            obtain ⟨d, hres, hinv⟩ := enter η1 (w.heap.size + 1) (S.hp.length + 1) a η ((w.alloc (.deferred (some []))).alloc (.loop { state := .ready, pending := none, fn, tmps := a.tmps, params := ps, assign := asg, body, defers := w.heap.size })) x3 hcap (hev E η a w hS)
            obtain ⟨nx, hrun, hnx⟩ := hcall η1 _ x4
            have hrun2 := run_callFunc hG h3 (SV.dens η1 (.yld (S.hp.length + 1) :: cap)).toArray ((w.alloc (.deferred (some []))).alloc (.loop { state := .ready, pending := none, fn, tmps := a.tmps, params := ps, assign := asg, body, defers := w.heap.size }))
            rw [hrun2] at hrun
            injection hrun with hnxe _
            subst hnxe
            · refine ⟨w.heap.size + 1, [{ target := .collected w.heap.size, args := #[] }], _, d, _, f, _, _, ?_, hres, fun f' _ => (fnc_wide cx.rd E.η).fn f', hinv.trans hrun2, (fnc_wide cx.rd E.η).deep _, ?_⟩
              · rw [fnc_round, hrd]; exact run_enterLoop_outer fn a.tmps ps asg body
              · refine ((fnc_wide cx.rd E.η).calls hnx).mono ?_
                rintro e' w' ⟨x, rfl, η', _, y1, y2⟩
                obtain ⟨rc, hheap, hst, hpe', _, _, _, _, _, turn⟩ := loop_at y1 hb1
                obtain ⟨t1, t2⟩ := turn .exhausted pe
                have hη : η' (S.hp.length + 1) = w.heap.size + 1 := by rw [y2.ext _ (by simp), x3]
                rw [hη] at hheap t1 t2
                refine ⟨rc.pending, w'.putObj (w.heap.size + 1) (.loop { rc with state := .exhausted }), run_endLoop hheap (by rw [hst]; exact isBusy_ne hbusy), ?_⟩
                have hrec : ({ rc with state := .exhausted, pending := pe } : Loop) = { rc with state := .exhausted } := by rw [← hpe']
                rw [hrec] at t1 t2
                have hlen := y2.len
                simp at hlen
                have hrel : RelS G.w0 E η' { S with df := S.hp.length :: S.df, hp := hput hp' (S.hp.length + 1) (some (.loop .exhausted pe ts1 ps1 asg1 body1 db1)) }
                    { a with defers := [{ target := .collected w.heap.size, args := #[] }] ++ a.defers } (w'.putObj (w.heap.size + 1) (.loop { rc with state := .exhausted })) := by
                  refine ⟨t1, hS.ts.congr (p := ltb S.hp.length) (fun i hi => ?_) h2, ?_, fun d hd => ?_, hS.po.trans (x5.trans (y2.trans t2))⟩
                  · have := ltb_iff.1 hi
                    rw [y2.ext i (by simp; omega), x1 i this]
                  · simp only [dfs, List.map_cons, List.cons_append, List.nil_append, y2.ext S.hp.length (by simp), x2]
                    rw [hS.df]
                    congr 1
                    exact (dfs_congr fun d hd => by rw [y2.ext d (by have := hS.dfl d hd; simp; omega), x1 d (hS.dfl d hd)]).symm
                  · simp only [hput_length]
                    rcases List.mem_cons.1 hd with rfl | hd
                    · omega
                    · have := hS.dfl d hd; omega
                have hfin := hpe (fun e' a' w' => e' = e ∧ ∃ η', RelS G.w0 E η' { S with df := S.hp.length :: S.df, hp := hput hp' (S.hp.length + 1) (some (.loop .exhausted pe ts1 ps1 asg1 body1 db1)) } a' w') (fnc cx.rd E.η) _ _ ⟨rfl, η', hrel⟩
                cases hpj : rc.pending with
                | none => have := hfin.1 (hpe'.symm.trans hpj); rw [hpj] at this; exact this
                | some c => have := hfin.2 c (hpe'.symm.trans hpj); rw [hpj] at this; exact this
          split at hK
          · rename_i st pe ts1 ps1 asg1 body1 db1 hb1
            split at hK
            · cases hK
            · rename_i hbusy
              split at hK
              · exact ⟨_, _, hK, trivial, fin .normal _ none _ _ _ _ _ hb1 hbusy (fun Q F a w hq => ⟨fun _ => hq, fun c hc => by cases hc⟩)⟩
              · exact ⟨_, _, hK, trivial, fin .ret _ (some .ret) _ _ _ _ _ hb1 hbusy (fun Q F a w hq => ⟨fun hc => by (cases hc), fun c hc => by cases hc; exact wpIn_ret hq⟩)⟩
              · rename_i id
                exact ⟨_, _, hK, trivial, fin (.exit id) _ (some (.exit id)) _ _ _ _ _ hb1 hbusy (fun Q F a w hq => ⟨fun hc => by (cases hc), fun c hc => by cases hc; exact wpIn_exit hq⟩)⟩
              · cases hK
          · cases hK
        · cases h
      · cases h
    · cases h
  | scope c ih =>
    intro cx S K hcx h
    simp only [exCode] at h
    obtain ⟨e1, S1, hK, ok1, hd1⟩ := ih cx S K hcx h
    exact ⟨e1, S1, hK, ok1, fun E hE η a w hS => wpIn_scope (fun l a w ⟨hh, _⟩ => by subst hh; exact ok1) (hd1 E hE η a w hS)⟩


theorem run_asAddr_ptr {P : Program} {w : World} (a : Addr) : (asAddr (.pointer (some a))).run P w = .ok a w := rfl

theorem resVals_sound {P : Program} {w0 : World} {η : Nat → Nat} {S : St} {tmps : Array Value} {w : World} (hr : HR w0 η S.hp w) (hts : LRel η S.ts tmps) (g : ResultVar → Sem Value) (g1 : ∀ t, g (.tmp t) = pure (tmps.getD t undef)) (g2 : ∀ a t, g (.cell a t) = do loadVar t (← asAddr (tmps.getD a undef))) : ∀ (rs : List ResultVar) {l : List SV}, resVals P S rs = some l →
    (rs.mapM (m := Sem) g).run P w = .ok (SV.dens η l) w
  | [], l, h => by simp only [resVals] at h; injection h with h; subst h; simp [SV.dens]
  | .tmp t :: r, l, h => by
    simp only [resVals] at h
    split at h
    · cases h
    · rename_i l' hl' hne
      injection h with h; subst h
      have ih := resVals_sound hr hts g g1 g2 r hl'
      have hv := hts.nth (i := t) rfl hne
      have hg : tmps.getD t undef = (nth S.ts t).den η := by simp [Array.getD_eq_getD_getElem?, hv]
      simp only [List.mapM_cons, g1, Sem.run_bind, Sem.run_pure, Result.andThen_ok, ih, hg, SV.dens]
    · cases h
  | .cell a t :: r, l, h => by
    simp only [resVals] at h
    split at h
    · rename_i b o hp
      have hpa := hts.nth (i := a) hp (by simp)
      have hg : tmps.getD a undef = .pointer (some ⟨η b, o, none⟩) := by simp [Array.getD_eq_getD_getElem?, hpa, SV.den]
      -- what is loaded
      have load : ∀ v, sLoad P w0 S.hp t (.ptr b o) (fun u => u = v) → (loadVar t ⟨η b, o, none⟩).run P w = .ok (v.den η) w := by
        intro v hv
        obtain ⟨u, rfl, _, hl⟩ := sLoad_sound hv
        have := hl w η hr
        simpa [Instr.loadAt, SV.den, Instr.sureAddr] using this
      split at h
      · rename_i cs ty tl hb
        split at h
        · rename_i n ha hs
          split at h
          · rename_i l' h1 h2 h3
            injection h with h; subst h
            have ih := resVals_sound hr hts g g1 g2 r h3
            have := load (.agg ((cs.drop o).take n)) (by simp only [sLoad, hb, ha, hs, h1, h2])
            simp only [List.mapM_cons, g2, Sem.run_bind, Sem.run_pure, Result.andThen_ok, hg, run_asAddr_ptr, this, ih, SV.dens]
          · cases h
        · rename_i hs ha
          split at h
          · cases h
          · rename_i l' h3 hne
            injection h with h; subst h
            have ih := resVals_sound hr hts g g1 g2 r h3
            have := load (nth cs o) (by
              simp only [sLoad, hb, ‹aggOf P t = some false›])
            simp only [List.mapM_cons, g2, Sem.run_bind, Sem.run_pure, Result.andThen_ok, hg, run_asAddr_ptr, this, ih, SV.dens]
          · cases h
        · cases h
      · cases h
    · cases h

theorem results_sound {P : Program} {w0 : World} {η : Nat → Nat} {S : St} {tmps : Array Value} {w : World} (hr : HR w0 η S.hp w) (hts : LRel η S.ts tmps) {fn : Func} {l : List SV} (h : resVals P S fn.results.toList = some l) :
    (results fn tmps).run P w = .ok ((resVal l).den η) w := by
  unfold results
  simp only [Sem.run_bind]
  rw [Array.mapM_eq_mapM_toList, Sem.run_map, resVals_sound hr hts _ (fun _ => rfl) (fun _ _ => rfl) fn.results.toList h]
  simp only [Result.andThen_ok, Sem.run_pure]
  congr 1
  match l with
  | [] => simp [resVal, SV.den, SV.dens]
  | [v] => simp [resVal, SV.dens]
  | a :: b :: r => simp [resVal, SV.den, SV.dens]

theorem takeDf_sound {P : Program} {w0 : World} {fn : Func} {tmps : Array Value} {R : Ending → World → Prop} {η : Nat → Nat} {hp0 : Hp} {w00 : World} : ∀ (df : List Nat) {hp hp' : Hp} {w : World}, takeDf df hp = some hp' → HR w0 η hp w → PO η hp0 w00 η hp w →
    (∀ w', HR w0 η hp' w' → PO η hp0 w00 η hp' w' → LeavesInM Fence.wide 0 P fn tmps R [] .returning w') → LeavesInM Fence.wide 0 P fn tmps R (dfs η df) .returning w
  | [], hp, hp', w, h, hr, po, hk => by simp only [takeDf] at h; injection h with h; subst h; exact hk w hr po
  | d :: r, hp, hp', w, h, hr, po, hk => by
    simp only [takeDf] at h
    split at h
    · rename_i hd
      have hlt := hget_some_lt hd
      obtain ⟨o, ho, ho2⟩ := hr.cell d _ hd
      have ho3 : o = .deferred (some []) := ho2
      subst ho3
      refine ⟨by simp, .inl ⟨η d, _, rfl, run_takeDeferred ho, ?_⟩⟩
      have hg : ∀ j b', hget (hput hp d none) j = some b' → j ≠ d ∧ hget hp j = some b' := by
        intro j b' hb'
        rw [hget_hput hlt] at hb'
        split at hb'
        · cases hb'
        · exact ⟨‹_›, hb'⟩
      have po2 : PO η hp w η (hput hp d none) (w.putObj (η d) (.deferred none)) := by
        refine ⟨fun _ _ => rfl, by simp, fun j b' hb' hj => ⟨_, (hg j b' hb').2⟩, fun j b' hb' hj => ?_, rfl, rfl, rfl, by simp, fun r hr hn => ?_⟩
        · have := hget_some_lt hb'; simp at this; omega
        · exact World.putObj_heap_other (fun e => hn d _ hd e.symm)
      have hr2 : HR w0 η (hput hp d none) (w.putObj (η d) (.deferred none)) := by
        refine ⟨hr.base_of po2, hr.hi_of po2, fun j b' hb' => ?_, fun i j bi bj hi hj e => hr.inj i j _ _ (hg i _ hi).2 (hg j _ hj).2 e⟩
        obtain ⟨hne, h1⟩ := hg j b' hb'
        obtain ⟨o', ho', hr'⟩ := hr.cell j b' h1
        refine ⟨o', ?_, hr'⟩
        rw [World.putObj_heap_other (fun e => hne (hr.inj j d _ _ h1 hd e))]; exact ho'
      exact takeDf_sound r h hr2 (po.trans po2) hk
    · cases h

theorem undefs_rel (η : Nat → Nat) : ∀ n, LRel η (undefs n) (Array.replicate n undef)
  | 0 => ⟨rfl, fun i v hv => by simp [undefs] at hv⟩
  | n + 1 => by
    refine ⟨by simp [undefs, (undefs_rel η n).1.symm], fun i v hv => ?_⟩
    right
    have hi : i < n + 1 := by
      have := (List.getElem?_eq_some_iff.1 hv).1
      have hl : (undefs (n + 1)).length = n + 1 := by simp [undefs, (undefs_rel η n).1.symm]
      omega
    have hv2 : v = .val undef := by
      cases i with
      | zero => simp [undefs] at hv; exact hv.symm
      | succ i =>
        simp only [undefs, List.getElem?_cons_succ] at hv
        have hm : ∀ m, ∀ u ∈ undefs m, u = .val undef := by
          intro m; induction m with
          | zero => intro u hu; simp [undefs] at hu
          | succ m ih => intro u hu; simp only [undefs, List.mem_cons] at hu; exact hu.elim id (ih u)
        exact hm n v (List.mem_of_getElem? hv)
    subst hv2
    simp [SV.den, hi]

theorem exCall_sound {G : Glob} (hG : GOk G) {r : Rec} (hr : RecOk G r) {f : FuncId} {args : List SV} {hp : Hp} {K : SV → Hp → Prop} (h : exCall G r f args hp K) :
    ∃ v hp', K v hp' ∧ CallOk G f args hp v hp' := by
  unfold exCall at h
  simp only [forceVs_eq, forceV_eq] at h
  split at h
  · rename_i C hC
    exact hG.orc f C hC args hp K h
  · split at h
    · cases h
    · rename_i fn hf
      split at h
      · cases h
      · rename_i c hc
        split at h
        · cases h
        · rename_i hna
          obtain ⟨e, S, hK, oke, hd⟩ := exCode_sound hG hr c ⟨f, 0, none, hp.length⟩ _ _ (fun b hb => by cases hb) h
          have hbody : hasBody G.P f = true := by simp [hasBody, hf, hc]
          have main : ∀ hp' l, takeDf S.df S.hp = some hp' → resVals G.P { S with hp := hp' } fn.results.toList = some l → (e = .normal ∨ e = .ret) → CallOk G f args hp (resVal l) hp' := by
            intro hp' l htk hres he η w hw
            refine ⟨.enter f (SV.dens η args).toArray, run_callFunc hG hbody _ _, ?_⟩
            refine callsIn_of_wp_marks hf hc trivial ?_
            let E : Ent := ⟨η, hget hp, hp.length, w⟩
            have h0 : RelS G.w0 E η ⟨args ++ undefs (fn.ntmps - args.length), [], hp⟩ { tmps := (SV.dens η args).toArray ++ Array.replicate (fn.ntmps - (SV.dens η args).toArray.size) undef, defers := [] } w :=
              ⟨hw, LRel.of_dens.append (by simpa using undefs_rel η (fn.ntmps - args.length)), rfl, (fun d hd => by cases hd), PO.refl _ _ _⟩
            refine wpIn_mono (hd E rfl η _ w h0) ?_
            rintro e' a' w' ⟨rfl, η', hS⟩
            have fin : LeavesInM Fence.wide 0 G.P fn a'.tmps (fun e w' => ∃ v, e = .returned v ∧ ∃ η', v = (resVal l).den η' ∧ HR G.w0 η' hp' w' ∧ PO η hp w η' hp' w') a'.defers .returning w' := by
              rw [hS.df]
              refine takeDf_sound (hp0 := S.hp) (w00 := w') S.df htk hS.hr (PO.refl _ _ _) fun w2 hr2 po2 => ?_
              refine ⟨_, results_sound (S := { S with hp := hp' }) hr2 hS.ts hres, _, rfl, η', rfl, hr2, ?_⟩
              exact hS.po.trans po2
            rcases he with rfl | rfl
            · exact fin
            · exact fin
          split at hK
          · split at hK
            · rename_i hp' htk
              split at hK
              · rename_i l hl
                exact ⟨_, _, hK, main _ _ htk hl (.inl rfl)⟩
              · cases hK
            · cases hK
          · split at hK
            · rename_i hp' htk
              split at hK
              · rename_i l hl
                exact ⟨_, _, hK, main _ _ htk hl (.inr rfl)⟩
              · cases hK
            · cases hK
          · cases hK

theorem recN_sound {G : Glob} (hG : GOk G) : ∀ n, RecOk G (recN G n)
  | 0 => ⟨fun _ _ _ _ _ h => h.elim, fun _ _ _ _ h => h.elim, fun _ _ _ _ _ h => h.elim, fun _ _ _ _ _ h => h.elim⟩
  | n + 1 => by
    have ih := recN_sound hG n
    refine ⟨fun cx c S K hcx h => exCode_sound hG ih c cx S K hcx h, fun f args hp K h => exCall_sound hG ih h, fun f hc args hp K h => ?_, fun cx c S K hcx h => ?_⟩
    · obtain ⟨C, hC, hs⟩ := hG.calm f hc
      have h : exCall G (recN G n) f args hp K := h
      unfold exCall at h
      rw [hC] at h
      exact hs args hp K h
    obtain ⟨e1, S1, hK, ok1, hd1⟩ := exCode_sound hG ih c cx S _ hcx h
    split at hK
    · obtain ⟨e, S', hKe, oke, m, hm⟩ := ih.loop cx c S1 K hcx hK
      exact ⟨e, S', hKe, oke, m + 1, fun E hE η a w hS => done_mono hd1 hE hS fun η' a' w' hS' => hm E hE η' a' w' hS'⟩
    · rename_i hne
      refine ⟨e1, S1, hK, ok1, 1, fun E hE η a w hS => done_mono hd1 hE hS fun η' a' w' hS' => ?_⟩
      cases e1 <;> first | exact absurd rfl hne | exact ⟨rfl, η', hS'⟩

theorem call_sound {G : Glob} (hG : GOk G) (n : Nat) {f : FuncId} {args : List SV} {hp : Hp} {K : SV → Hp → Prop} (h : (recN G n).call f args hp K) : ∃ v hp', K v hp' ∧ CallOk G f args hp v hp' :=
  (recN_sound hG n).call f args hp K h

end Go.Sx
