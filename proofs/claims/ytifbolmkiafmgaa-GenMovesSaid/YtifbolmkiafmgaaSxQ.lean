import Derived.Test.YtifbolmkiafmgaaSxF
import Derived.Laws.Append
import Derived.Laws.BytesString
import Derived.Laws.IdiomStrings
import Derived.Lib.UnsafeStr
set_option linter.unusedSimpArgs false
set_option linter.unusedVariables false
namespace Go.Sx
open Go.RowKit (Below)

theorem setCell_putObj {w : World} {b o : Nat} {c : Array Value} {ty : TypeId} {fz : Nat × Nat} {v : Value} (h : w.heap[b]? = some (.cells c ty fz)) :
    w.setCell ⟨b, o, none⟩ v = w.putObj b (.cells (c.setIfInBounds o v) ty fz) := by
  unfold World.setCell World.putObj
  congr 1
  apply Array.ext_getElem?
  intro i
  simp only [Array.getElem?_modify, Array.getElem?_setIfInBounds]
  by_cases hi : b = i
  · subst hi
    have hlt := (Array.getElem?_eq_some_iff.1 h).1
    rw [if_pos rfl, if_pos rfl, if_pos hlt, h]
    rfl
  · rw [if_neg hi, if_neg hi]

theorem scalar_den {v : SV} (h : v.scalar = true) (η : Nat → Nat) : (∀ cs, v.den η ≠ .agg cs) ∧ (∀ vs, v.den η ≠ .tuple vs) := by
  cases v with
  | val x =>
    simp only [SV.scalar] at h
    split at h <;> first | (cases h; done) | skip
    rename_i h1 h2
    exact ⟨fun cs e => h1 cs e, fun vs e => h2 vs e⟩
  | any => cases h
  | agg cs => cases h
  | tup cs => cases h
  | _ => exact ⟨fun cs e => by simp [SV.den] at e, fun vs e => by simp [SV.den] at e⟩

theorem run_store1 {P : Program} {w : World} {b o : Nat} {c : Array Value} {ty : TypeId} {v : Value} {fz : Nat × Nat} (h : w.heap[b]? = some (.cells c ty fz)) (hz : FzOk c.size fz) (ho : o < c.size)
    (h1 : ∀ cs, v ≠ .agg cs) (h2 : ∀ vs, v ≠ .tuple vs) : (store ⟨b, o, none⟩ v).run P w = .ok () (w.putObj b (.cells (c.setIfInBounds o v) ty fz)) := by
  have hc : w.cell? ⟨b, o, none⟩ = some c[o] := by simp [World.cell?, h, ho]
  have hf : w.frozen? ⟨b, o, none⟩ = false := by
    have := hz o ho
    simp only [World.frozen?, h]
    simpa using this
  have : (store ⟨b, o, none⟩ v) = Sem.store .plain ⟨b, o, none⟩ v (.pure ()) := rfl
  rw [this, ← setCell_putObj h]
  cases v <;> first | exact absurd rfl (h1 _) | exact absurd rfl (h2 _) | simp [Sem.run, hc, hf]

theorem putObj_putObj {w : World} {b : Nat} {o o' : Obj} : (w.putObj b o).putObj b o' = w.putObj b o' := by
  simp [World.putObj]

theorem run_storeCells {P : Program} {η : Nat → Nat} {b : Nat} {ty : TypeId} {fz : Nat × Nat} {m : ST} : ∀ (xs : List SV) (i o : Nat) {cs : List SV} {c : Array Value} {w : World}, allScalar xs = true →
    w.heap[b]? = some (.cells c ty fz) → FzOk c.size fz → LRelT η cs m c → o + i + xs.length ≤ c.size →
    ∃ c', c'.size = c.size ∧ LRelT η (spl cs (o + i) xs) m c' ∧ (storeCells ⟨b, o, none⟩ (SV.dens η xs) i).run P w = .ok () (w.putObj b (.cells c' ty fz))
  | [], i, o, cs, c, w, _, hb, hz, hc, _ => ⟨c, rfl, hc, by
      have e : w.putObj b (.cells c ty fz) = w := by
        unfold World.putObj
        have : w.heap.setIfInBounds b (.cells c ty fz) = w.heap := by
          apply Array.ext_getElem?
          intro k
          rw [Array.getElem?_setIfInBounds]
          split
          · rename_i e; subst e; split <;> simp_all
          · rfl
        rw [this]
      simp [storeCells, SV.dens, e]⟩
  | x :: xs, i, o, cs, c, w, hs, hb, hz, hc, hle => by
    simp only [List.length_cons] at hle
    have hx : x.scalar = true := allScalar_iff hs x (by simp)
    have hxs : allScalar xs = true := by
      simp only [allScalar, hx] at hs; exact hs
    obtain ⟨d1, d2⟩ := scalar_den hx η
    have h1 := run_store1 (P := P) (w := w) (b := b) (o := o + i) (c := c) (ty := ty) (v := x.den η) hb hz (by omega) d1 d2
    have hlt := (Array.getElem?_eq_some_iff.1 hb).1
    obtain ⟨c', hcs', hc', hr⟩ := run_storeCells (P := P) (η := η) (b := b) (ty := ty) xs (i + 1) o (cs := put cs (o + i) x) (c := c.setIfInBounds (o + i) (x.den η)) (w := w.putObj b (.cells (c.setIfInBounds (o + i) (x.den η)) ty fz))
      hxs (World.putObj_heap_same hlt) (hz.size (by simp)) (hc.put _ (.inr rfl)) (by simp; omega)
    refine ⟨c', by simpa using hcs', by simpa [spl, Nat.add_assoc] using hc', ?_⟩
    rw [putObj_putObj] at hr
    have ha : (⟨b, o, none⟩ : Addr).add i = ⟨b, o + i, none⟩ := by
      unfold Addr.add; split
      · rename_i h0; subst h0; rfl
      · rfl
    simp only [SV.dens, storeCells, ha, bind, Sem.run_bind', h1, Result.andThen_ok, hr]

theorem srcT {d : TypeDesc} (h : isSrcT d = true) : (∃ e, d = .slice e) ∨ d = .string := by
  cases d <;> first | (cases h; done) | exact .inl ⟨_, rfl⟩ | exact .inr rfl

def EffRun (P : Program) (w0 : World) (hp : Hp) (v : SV) (hp' : Hp) (s : (Nat → Nat) → Sem Value) : Prop :=
  ∀ η w, HR w0 η hp w → ∃ η' w', (s η).run P w = .ok (v.den η') w' ∧ HR w0 η' hp' w' ∧ PO η hp w η' hp' w'

theorem HRel.drew' {w0 η hp w} (h : HR w0 η hp w) : HR w0 η hp w.drew := h.drew _
theorem PO.drew {η hp w η' hp' w'} (h : PO η hp w.drew η' hp' w') : PO η hp w η' hp' w' :=
  ⟨h.ext, h.len, h.dom, h.fresh, h.os, h.tape, h.output, h.grow, h.oth⟩

section
variable {P : Program}

theorem run_append_new {t u ty e : TypeId} {ats : Array TypeId} (h0 : ats[0]? = some t) (h1 : ats[1]? = some u) {d : TypeDesc} (ht : P.underlying t = some (.slice e)) (hu : P.underlying u = some d) (hd : isSrcT d = true)
    {i : TypeInfo} {z : Value} (hi : P.info? e = some i) (hz : i.zero = some z) {base : Option Addr} {sLen sCap n : Nat} {x : Value} {olds news : List Value} {w : World}
    (hs : (Builtin.firstCells i.size sLen (.slice base sLen sCap)).run P w.drew = .ok olds.toArray w.drew) (hl : (Builtin.lenOf x).run P w = .ok n w)
    (hx : (Builtin.firstCells i.size n x).run P w.drew = .ok news.toArray w.drew) (hg : sCap < sLen + n) (h48 : (sLen + n) * i.bytes ≤ 140737488355328) (h63 : sLen + n ≤ 140737488355328) :
    (Builtin.append_ ats ty #[.slice base sLen sCap, x]).run P w = .ok (.slice (some ⟨w.heap.size, 0, none⟩) (sLen + n) (grownCap w (sLen + n) sCap e))
      (w.drew.alloc (.cells ((olds ++ news).toArray ++ Builtin.zeroCells z.cells (grownCap w (sLen + n) sCap e - (sLen + n))) e)) := by
  have hn : ¬ (sLen + n ≤ sCap) := by omega
  have h63' : ¬ (9223372036854775807 < ((sLen : Int) + (n : Int))) := by omega
  have h48' : ¬ (281474976710656 < Builtin.nextslicecap (sLen + n) sCap * i.bytes) := by have := growslice_fits hg h48; omega
  rcases srcT hd with ⟨e', rfl⟩ | rfl <;> simp [Builtin.append_, h0, h1, run_underlying ht, run_underlying hu, sizeOf, typeInfo, zeroValue, hi, hz, hl, hn, h63', h48', Question.forced, hs, hx, newRow, grownCap]
  all_goals (congr 2; apply Array.ext'; simp [List.append_assoc])

theorem run_append_fit {t u ty e : TypeId} {ats : Array TypeId} (h0 : ats[0]? = some t) (h1 : ats[1]? = some u) {d : TypeDesc} (ht : P.underlying t = some (.slice e)) (hu : P.underlying u = some d) (hd : isSrcT d = true)
    {i : TypeInfo} (hi : P.info? e = some i) {a : Addr} {sLen sCap n : Nat} {x : Value} {news : List Value} {w w' : World}
    (hl : (Builtin.lenOf x).run P w = .ok n w) (hx : (Builtin.firstCells i.size n x).run P w = .ok news.toArray w) (hg : sLen + n ≤ sCap)
    (hst : (storeCells (a.add (sLen * i.size)) news).run P w = .ok () w') :
    (Builtin.append_ ats ty #[.slice (some a) sLen sCap, x]).run P w = .ok (.slice (some a) (sLen + n) sCap) w' := by
  rcases srcT hd with ⟨e', rfl⟩ | rfl <;> simp [Builtin.append_, h0, h1, run_underlying ht, run_underlying hu, sizeOf, typeInfo, hi, hl, hg, hx, hst]

theorem run_append_none0 {t u ty e : TypeId} {ats : Array TypeId} (h0 : ats[0]? = some t) (h1 : ats[1]? = some u) {d : TypeDesc} (ht : P.underlying t = some (.slice e)) (hu : P.underlying u = some d) (hd : isSrcT d = true)
    {i : TypeInfo} (hi : P.info? e = some i) {x : Value} {news : Array Value} {w : World} (hl : (Builtin.lenOf x).run P w = .ok 0 w) (hx : (Builtin.firstCells i.size 0 x).run P w = .ok news w) :
    (Builtin.append_ ats ty #[.slice none 0 0, x]).run P w = .ok (.slice none 0 0) w := by
  rcases srcT hd with ⟨e', rfl⟩ | rfl <;> simp [Builtin.append_, h0, h1, run_underlying ht, run_underlying hu, sizeOf, typeInfo, hi, hl, hx]
end

theorem info_of {P : Program} {e : TypeId} {z by_ : Nat} {zv : Value} (h1 : szOf P e = some z) (h2 : bytesOf P e = some by_) (h3 : zeroOf P e = some zv) : ∃ i, P.info? e = some i ∧ i.size = z ∧ i.bytes = by_ ∧ i.zero = some zv := by
  unfold szOf at h1; unfold bytesOf at h2; unfold zeroOf at h3
  split at h1
  · rename_i i hi
    rw [hi] at h2 h3
    simp at h1 h2 h3
    exact ⟨i, hi, h1, h2, h3⟩
  · cases h1
theorem info_sz {P : Program} {e : TypeId} {z : Nat} (h1 : szOf P e = some z) : ∃ i, P.info? e = some i ∧ i.size = z := by
  unfold szOf at h1
  split at h1
  · rename_i i hi; simp at h1; exact ⟨i, hi, h1⟩
  · cases h1

theorem first_known {P : Program} {w0 : World} {η : Nat → Nat} {hp : Hp} {w : World} (h : HR w0 η hp w) {b o m z : Nat} {cs : List SV} {ty : TypeId} {tl : ST} (hb : hget hp b = some (.cells cs ty tl))
    (hle : o + m * z ≤ cs.length) (hn : noAny ((cs.drop o).take (m * z)) = true) (cap : Nat) (len : Nat) :
    (Builtin.firstCells z m (.slice (some ⟨η b, o, none⟩) len cap)).run P w = .ok (SV.dens η ((cs.drop o).take (m * z))).toArray w := by
  obtain ⟨c, fz, hc, _, _, hcell⟩ := cell_at h hb
  refine run_firstCells_some (P := P) w z m ⟨η b, o, none⟩ len cap _ (by simp; omega) fun j v hv => ?_
  rw [add_ptr, hcell]
  rw [dens_get] at hv
  simp only [Option.map_eq_some_iff] at hv
  obtain ⟨u, hu, rfl⟩ := hv
  have hu' : cs[o + j]? = some u := by
    rw [List.getElem?_take] at hu
    split at hu
    · rwa [List.getElem?_drop] at hu
    · cases hu
  rcases hc.2 _ _ hu' with e | e
  · have := noAny_iff hn u (List.mem_of_getElem? hu); rw [e] at this; cases this
  · exact e

theorem allScalar_noAny {l : List SV} (h : allScalar l = true) : noAny l = true := by
  induction l with
  | nil => rfl
  | cons v r ih =>
    have h1 : v.scalar = true := allScalar_iff h v (by simp)
    have h2 : allScalar r = true := by simp only [allScalar, h1] at h; exact h
    simp [noAny, scalar_ne_any h1, ih h2]

theorem allScalar_take {l : List SV} (h : allScalar l = true) (n : Nat) : allScalar (l.take n) = true := by
  induction l generalizing n with
  | nil => simp [allScalar]
  | cons v r ih =>
    have h1 : v.scalar = true := allScalar_iff h v (by simp)
    have h2 : allScalar r = true := by simp only [allScalar, h1] at h; exact h
    cases n with
    | zero => rfl
    | succ n => simp [allScalar, h1, ih h2 n]

theorem src_sound {P : Program} {hp : Hp} {z : Nat} {x : SV} {n : Nat} {news : List SV} (h : srcCells hp z x = some (n, news)) :
    allScalar news = true ∧ news.length = n * z ∧ ∀ (w0 : World) (η : Nat → Nat) (w : World), HR w0 η hp w → (Builtin.lenOf (x.den η)).run P w = .ok n w ∧
      ∀ m, m ≤ n → (Builtin.firstCells z m (x.den η)).run P w = .ok (SV.dens η (news.take (m * z))).toArray w := by
  unfold srcCells at h
  split at h
  · rename_i b o l c
    split at h
    · rename_i cs ty tl hb
      split at h
      · rename_i h1 h2
        injection h with h; injection h with e1 e2
        subst e1; subst e2
        have h1 := Nat.le_of_ble_eq_true h1
        refine ⟨h2, by simp; omega, fun w0 η w hr => ⟨by simp [Builtin.lenOf, SV.den], fun m hm => ?_⟩⟩
        have hle : m * z ≤ l * z := Nat.mul_le_mul_right _ hm
        have ht : ((cs.drop o).take (l * z)).take (m * z) = (cs.drop o).take (m * z) := by rw [List.take_take, Nat.min_eq_left hle]
        rw [ht]
        exact first_known hr hb (by omega) (by rw [← ht]; exact allScalar_noAny (allScalar_take h2 _)) _ _
      · cases h
    · cases h
  · injection h with h; injection h with e1 e2
    subst e1; subst e2
    refine ⟨rfl, by simp, fun w0 η w hr => ⟨by simp [Builtin.lenOf, SV.den], fun m hm => ?_⟩⟩
    have : m = 0 := by omega
    subst this
    simp [SV.den, SV.dens, run_firstCells_none]
  · rename_i s
    split at h
    · rename_i hz
      have hz := Nat.eq_of_beq_eq_true hz
      subst hz
      injection h with h; injection h with e1 e2
      subst e1; subst e2
      have hsc : ∀ l : List UInt8, allScalar (l.map fun b => SV.int .u8 (.lit b.toNat)) = true := fun l => by
        induction l with
        | nil => rfl
        | cons b r ih => simp only [List.map_cons, allScalar, SV.scalar]; exact ih
      refine ⟨hsc _, by simp [byteCells], fun w0 η w hr => ⟨by simp [Builtin.lenOf, SV.den], fun m hm => ?_⟩⟩
      simp only [SV.den, Builtin.firstCells, Sem.run_pure, SS.val_lit]
      congr 1
      apply Array.toList_inj.1
      simp [byteCells, dens_map, SV.den, List.map_take, Nat.min_eq_left hm]
      rfl
    · cases h
  · cases h


theorem grownCap_le' (w : World) (need old : Nat) (e : TypeId) : need ≤ grownCap w need old e := by
  unfold grownCap Question.cut; exact Nat.le_add_right _ _

theorem size_zc (z : Array Value) (n : Nat) : (Builtin.zeroCells z n).size = n * z.size := by simp [Builtin.zeroCells]

theorem okHp_mem {p : Nat → Bool} {hp : Hp} (h : okHp p hp = true) {b : Nat} {cs : List SV} {ty : TypeId} {tl : ST} (hb : hget hp b = some (.cells cs ty tl)) : ∀ v ∈ cs, v.allv p = true := by
  have := okHp_get h hb
  simp only [SBk.allb] at this
  split at this
  · exact allvs_iff.1 this
  · cases this

theorem src_ids {p : Nat → Bool} {hp : Hp} (hok : okHp p hp = true) {z : Nat} {x : SV} {n : Nat} {news : List SV} (h : srcCells hp z x = some (n, news)) : ∀ v ∈ news, v.allv p = true := by
  unfold srcCells at h
  split at h
  · split at h
    · rename_i hb
      split at h
      · injection h with h; injection h with e1 e2
        subst e2
        intro v hv
        exact okHp_mem hok hb v (List.mem_of_mem_drop (List.mem_of_mem_take hv))
      · cases h
    · cases h
  · injection h with h; injection h with e1 e2
    subst e2
    intro v hv; cases hv
  · split at h
    · injection h with h; injection h with e1 e2
      subst e2
      intro v hv
      simp only [byteCells, List.mem_map] at hv
      obtain ⟨b, _, rfl⟩ := hv
      rfl
    · cases h
  · cases h


theorem okHp_tl {p : Nat → Bool} {hp : Hp} (h : okHp p hp = true) {b : Nat} {cs : List SV} {ty : TypeId} {tl : ST} (hb : hget hp b = some (.cells cs ty tl)) : tl.all p = true := by
  have := okHp_get h hb
  simp only [SBk.allb] at this
  split at this
  · assumption
  · cases this

theorem move_num {w0 η hp w} (h : HR w0 η hp w) (hok : okHp (ltb hp.length) hp = true) (c : Nat) :
    HR w0 (upd η hp.length c) (hp ++ [none]) w ∧ PO η hp w (upd η hp.length c) (hp ++ [none]) w := by
  have hlt : ∀ i, ltb hp.length i = true → upd η hp.length c i = η i := fun i hi => upd_lt η (ltb_iff.1 hi)
  have hg : ∀ i b', hget (hp ++ [none]) i = some b' → i < hp.length ∧ hget hp i = some b' := by
    intro i b' hb'
    rw [hget_append] at hb'
    split at hb'
    · exact ⟨‹_›, hb'⟩
    · have : i < (hp ++ [none]).length := hget_some_lt (by rw [hget_append, if_neg ‹_›]; exact hb')
      simp at this
      have e : i = hp.length := by omega
      subst e
      simp [hget] at hb'
  have po : PO η hp w (upd η hp.length c) (hp ++ [none]) w :=
    ⟨fun i hi => upd_lt η hi, by simp, fun i b' hb' _ => ⟨_, (hg i b' hb').2⟩, fun i b' hb' hi => absurd (hg i b' hb').1 (by omega), rfl, rfl, rfl, Nat.le_refl _, fun _ _ _ => rfl⟩
  refine ⟨⟨h.base, fun i b' hb' => ?_, fun i b' hb' => ?_, fun i j bi bj hi hj e => ?_⟩, po⟩
  · obtain ⟨h1, h2⟩ := hg i b' hb'
    rw [upd_lt η h1]; exact h.hi i b' h2
  · obtain ⟨h1, h2⟩ := hg i b' hb'
    obtain ⟨o, ho, hr⟩ := h.cell i b' h2
    exact ⟨o, by rw [upd_lt η h1]; exact ho, hr.congr hlt (okHp_get hok h2)⟩
  · obtain ⟨h1, h2⟩ := hg i bi hi
    obtain ⟨h3, h4⟩ := hg j bj hj
    rw [upd_lt η h1, upd_lt η h3] at e
    exact h.inj i j bi bj h2 h4 e


mutual
theorem allv_mono {p q : Nat → Bool} (h : ∀ i, p i = true → q i = true) : ∀ v : SV, v.allv p = true → v.allv q = true
  | .any, _ => rfl
  | .bool _, _ => rfl
  | .int _ _, _ => rfl
  | .str _, _ => rfl
  | .ptr b o, hv => h b hv
  | .slice b o l c, hv => by
    simp only [SV.allv] at hv ⊢
    split at hv
    · rename_i hb
      rw [h b hb]
      cases c with
      | lit n => rfl
      | ltr k => exact h k hv
      | num k => rfl
    · cases hv
  | .fn f cs, hv => by simp only [SV.allv] at hv ⊢; exact allvs_mono h hv
  | .mth f cs, hv => by simp only [SV.allv] at hv ⊢; exact allvs_mono h hv
  | .yld b, hv => h b hv
  | .agg cs, hv => by simp only [SV.allv] at hv ⊢; exact allvs_mono h hv
  | .tup cs, hv => by simp only [SV.allv] at hv ⊢; exact allvs_mono h hv
  | .val _, _ => rfl
  | .fsl b n c, hv => by
    simp only [SV.allv] at hv ⊢
    split at hv
    · rename_i hb
      rw [h b hb]
      cases c with
      | lit n => rfl
      | ltr k => exact h k hv
      | num k => rfl
    · cases hv
  | .fptr b i z o, hv => h b hv
  | .bsl _ _ _ _, _ => rfl
  | .bptr _ _ _ _, _ => rfl
  | .osl b o z n c, hv => h b hv
theorem allvs_mono {p q : Nat → Bool} (h : ∀ i, p i = true → q i = true) : ∀ {l : List SV}, SV.allvs p l = true → SV.allvs q l = true
  | [], _ => rfl
  | c :: r, hv => by
    rw [allvs_cons] at hv ⊢
    exact ⟨allv_mono h c hv.1, allvs_mono h hv.2⟩
end
theorem allb_mono {p q : Nat → Bool} (h : ∀ i, p i = true → q i = true) {b : SBk} (hb : b.allb p = true) : b.allb q = true := by
  cases b with
  | cells cs ty tl =>
    simp only [SBk.allb] at hb ⊢
    split at hb
    · rename_i ht
      have : tl.all q = true := by
        cases tl with
        | full => rfl
        | ltr k z => exact h k ht
      rw [this]; exact allvs_mono h hb
    · cases hb
  | loop st pe ts ps asg body db =>
    simp only [SBk.allb] at hb ⊢
    split at hb
    · rename_i hd
      rw [h _ hd]; exact allvs_mono h hb
    · cases hb
  | dfr => rfl
  | fblk n fs ty tl =>
    cases tl with
    | full => rfl
    | ltr k z => exact h k hb
theorem okHp_mono {p q : Nat → Bool} (h : ∀ i, p i = true → q i = true) : ∀ {hp : Hp}, okHp p hp = true → okHp q hp = true
  | [], _ => rfl
  | none :: r, hh => by simp only [okHp] at hh ⊢; exact okHp_mono h hh
  | some b :: r, hh => by
    simp only [okHp] at hh ⊢
    split at hh
    · rename_i hb; rw [allb_mono h hb]; exact okHp_mono h hh
    · cases hh
theorem okHp_append {p : Nat → Bool} : ∀ {hp : Hp} {m : Hp}, okHp p hp = true → okHp p m = true → okHp p (hp ++ m) = true
  | [], m, _, hm => hm
  | none :: r, m, hh, hm => by simp only [okHp, List.cons_append] at hh ⊢; exact okHp_append hh hm
  | some b :: r, m, hh, hm => by
    simp only [okHp, List.cons_append] at hh ⊢
    split at hh
    · exact okHp_append hh hm
    · cases hh
theorem okHp_none {hp : Hp} (h : okHp (ltb hp.length) hp = true) : okHp (ltb (hp ++ [none] : Hp).length) (hp ++ [none]) = true :=
  okHp_append (okHp_mono (fun i hi => by rw [ltb_iff] at hi ⊢; simp; omega) h) rfl

theorem grown_rel {η : Nat → Nat} {n z e : Nat} {c : Nat} {cs : List SV} {len a : Nat} (hcs : ∀ v ∈ cs, v.allv (ltb len) = true) (hl : cs.length = n * z) (hc : n ≤ c) {vs : Array Value} {fz : Nat × Nat} (hfz : FzOk vs.size fz)
    (hsz : vs.size = c * z) (hv : ∀ (i : Nat) (v : SV), cs[i]? = some v → v = .any ∨ vs[i]? = some (v.den η)) :
    (SBk.cells cs e (.ltr len z)).Rel (upd (upd η len c) (len + 1) a) (.cells vs e fz) := by
  refine ⟨vs, fz, ⟨⟨by rw [upd_lt _ (by omega), upd_same]; exact hsz, by rw [hl, hsz]; exact Nat.mul_le_mul_right _ hc⟩, fun i v hiv => (hv i v hiv).imp id fun h => ?_⟩, hfz, rfl⟩
  rw [h]; congr 1
  refine (den_congr (p := ltb len) (fun j hj => ?_) v (hcs v (List.mem_of_getElem? hiv))).symm
  have := ltb_iff.1 hj
  rw [upd_lt _ (by omega), upd_lt _ this]

theorem move_grown {w0 η hp w} (h : HR w0 η hp w) (hok : okHp (ltb hp.length) hp = true) {n z e : Nat} {cs : List SV} (hcs : ∀ v ∈ cs, v.allv (ltb hp.length) = true) (hl : cs.length = n * z) {c : Nat} (hc : n ≤ c) {vs : Array Value} {fz : Nat × Nat} (hfz : FzOk vs.size fz)
    (hsz : vs.size = c * z) (hv : ∀ (i : Nat) (v : SV), cs[i]? = some v → v = .any ∨ vs[i]? = some (v.den η)) :
    ∃ η', HR w0 η' (hp ++ [none, some (.cells cs e (.ltr hp.length z))]) (w.alloc (.cells vs e fz)) ∧ PO η hp w η' (hp ++ [none, some (.cells cs e (.ltr hp.length z))]) (w.alloc (.cells vs e fz)) ∧
      η' (hp.length + 1) = w.heap.size ∧ η' hp.length = c := by
  obtain ⟨a1, a2⟩ := move_num h hok c
  have hlen : (hp ++ [none] : Hp).length = hp.length + 1 := by simp
  have hb : (SBk.cells cs e (.ltr hp.length z)).Rel (upd (upd η hp.length c) (hp ++ [none] : Hp).length w.heap.size) (.cells vs e fz) := by rw [hlen]; exact grown_rel hcs hl hc hfz hsz hv
  obtain ⟨b1, b2⟩ := move_alloc a1 (okHp_none hok) hb
  rw [List.append_assoc] at b1 b2
  exact ⟨_, b1, a2.trans b2, by rw [hlen, upd_same], by rw [hlen, upd_lt _ (by omega), upd_same]⟩

theorem move_regrown {w0 η hp w} (h : HR w0 η hp w) (hok : okHp (ltb hp.length) hp = true) {b : Nat} {b0 : SBk} (hi : hget hp b = some b0) {n z e : Nat} {cs : List SV} (hcs : ∀ v ∈ cs, v.allv (ltb hp.length) = true) (hl : cs.length = n * z) {c : Nat} (hc : n ≤ c) {vs : Array Value} {fz : Nat × Nat} (hfz : FzOk vs.size fz)
    (hsz : vs.size = c * z) (hv : ∀ (i : Nat) (v : SV), cs[i]? = some v → v = .any ∨ vs[i]? = some (v.den η)) :
    ∃ η', HR w0 η' (hput hp b none ++ [none, some (.cells cs e (.ltr hp.length z))]) (w.putObj (η b) (.cells vs e fz)) ∧ PO η hp w η' (hput hp b none ++ [none, some (.cells cs e (.ltr hp.length z))]) (w.putObj (η b) (.cells vs e fz)) ∧
      η' (hp.length + 1) = η b ∧ η' hp.length = c := by
  obtain ⟨a1, a2⟩ := move_num h hok c
  have hlt := hget_some_lt hi
  have hlen : (hp ++ [none] : Hp).length = hp.length + 1 := by simp
  have hi' : hget (hp ++ [none]) b = some b0 := by rw [hget_append, if_pos hlt]; exact hi
  have hηb : upd η hp.length c b = η b := upd_lt _ hlt
  have hb : (SBk.cells cs e (.ltr hp.length z)).Rel (upd (upd η hp.length c) (hp ++ [none] : Hp).length (upd η hp.length c b)) (.cells vs e fz) := by rw [hlen]; exact grown_rel hcs hl hc hfz hsz hv
  obtain ⟨b1, b2⟩ := move_rename a1 (okHp_none hok) hi' hb
  have hput_app : hput (hp ++ [none]) b none = hput hp b none ++ [none] := by
    rw [hput_eq, hput_eq, List.set_append_left _ _ hlt]
  rw [hput_app, List.append_assoc, hηb] at b1 b2
  rw [hlen] at b1 b2
  exact ⟨_, b1, a2.trans b2, by rw [upd_same], by rw [upd_lt _ (by omega), upd_same]⟩

theorem move_grownB {w0 η hp w} (h : HR w0 η hp w) (hok : okHp (ltb hp.length) hp = true) {c : Nat} {b : SBk} {o : Obj} (hb : b.Rel (upd (upd η hp.length c) (hp.length + 1) w.heap.size) o) :
    ∃ η', HR w0 η' (hp ++ [none, some b]) (w.alloc o) ∧ PO η hp w η' (hp ++ [none, some b]) (w.alloc o) ∧ η' (hp.length + 1) = w.heap.size ∧ η' hp.length = c := by
  obtain ⟨a1, a2⟩ := move_num h hok c
  have hlen : (hp ++ [none] : Hp).length = hp.length + 1 := by simp
  obtain ⟨b1, b2⟩ := move_alloc a1 (okHp_none hok) (b := b) (o := o) (by rw [hlen]; exact hb)
  rw [List.append_assoc] at b1 b2
  exact ⟨_, b1, a2.trans b2, by rw [hlen, upd_same], by rw [hlen, upd_lt _ (by omega), upd_same]⟩
theorem move_regrownB {w0 η hp w} (h : HR w0 η hp w) (hok : okHp (ltb hp.length) hp = true) {b : Nat} {b0 : SBk} (hi : hget hp b = some b0) {c : Nat} {nb : SBk} {o : Obj} (hb : nb.Rel (upd (upd η hp.length c) (hp.length + 1) (η b)) o) :
    ∃ η', HR w0 η' (hput hp b none ++ [none, some nb]) (w.putObj (η b) o) ∧ PO η hp w η' (hput hp b none ++ [none, some nb]) (w.putObj (η b) o) ∧ η' (hp.length + 1) = η b ∧ η' hp.length = c := by
  obtain ⟨a1, a2⟩ := move_num h hok c
  have hlt := hget_some_lt hi
  have hlen : (hp ++ [none] : Hp).length = hp.length + 1 := by simp
  have hi' : hget (hp ++ [none]) b = some b0 := by rw [hget_append, if_pos hlt]; exact hi
  have hηb : upd η hp.length c b = η b := upd_lt _ hlt
  obtain ⟨b1, b2⟩ := move_rename a1 (okHp_none hok) hi' (b := nb) (o := o) (by rw [hlen, hηb]; exact hb)
  have hput_app : hput (hp ++ [none]) b none = hput hp b none ++ [none] := by
    rw [hput_eq, hput_eq, List.set_append_left _ _ hlt]
  rw [hput_app, List.append_assoc, hηb] at b1 b2
  rw [hlen] at b1 b2
  exact ⟨_, b1, a2.trans b2, by rw [upd_same], by rw [upd_lt _ (by omega), upd_same]⟩

theorem move_drop {w0 η hp w} (h : HR w0 η hp w) (b : Nat) : HR w0 η (hput hp b none) w ∧ PO η hp w η (hput hp b none) w := by
  have hg : ∀ i b', hget (hput hp b none) i = some b' → hget hp i = some b' := by
    intro i b' hb'
    rw [hget_eq, hput_eq, List.getElem?_set] at hb'
    rw [hget_eq]
    split at hb'
    · split at hb' <;> simp at hb'
    · exact hb'
  exact ⟨h.less hg, fun _ _ => rfl, by simp, fun i b' hb' _ => ⟨_, hg i b' hb'⟩, fun i b' hb' hi => absurd (hget_some_lt hb') (by simp; omega), rfl, rfl, rfl, Nat.le_refl _, fun _ _ _ => rfl⟩

theorem okHp_hput {p : Nat → Bool} : ∀ {hp : Hp}, okHp p hp = true → ∀ b, okHp p (hput hp b none) = true
  | [], h, b => by cases b <;> exact h
  | none :: r, h, 0 => by simpa [hput, okHp] using h
  | none :: r, h, b + 1 => by simp only [hput, okHp] at h ⊢; exact okHp_hput h b
  | some c :: r, h, 0 => by
    simp only [okHp] at h
    split at h
    · simpa [hput, okHp] using h
    · cases h
  | some c :: r, h, b + 1 => by
    simp only [okHp] at h
    split at h
    · rename_i hc
      simp only [hput, okHp, hc]
      exact okHp_hput h b
    · cases h

theorem run_storeX {P : Program} {η : Nat → Nat} {b : Nat} {ty : TypeId} {fz : Nat × Nat} {w : World} {c : Array Value} (xs : List SV) (o : Nat) (hs : allScalar xs = true) (hb : w.heap[b]? = some (.cells c ty fz)) (hz : FzOk c.size fz) (hle : o + xs.length ≤ c.size) :
    ∃ c', c'.size = c.size ∧ (∀ j, j < o → c'[j]? = c[j]?) ∧ (∀ j v, xs[j]? = some v → c'[o + j]? = some (v.den η)) ∧ (storeCells ⟨b, o, none⟩ (SV.dens η xs)).run P w = .ok () (w.putObj b (.cells c' ty fz)) := by
  have hc : LRelT η ((c.toList.map SV.val).take o ++ List.replicate (c.size - o) .any) .full c := by
    refine ⟨by simp [ST.ok]; omega, fun i v hv => ?_⟩
    by_cases hi : i < o
    · rw [List.getElem?_append_left (by simp; omega), List.getElem?_take, if_pos hi, List.getElem?_map] at hv
      simp only [Option.map_eq_some_iff] at hv
      obtain ⟨u, hu, rfl⟩ := hv
      right
      rw [SV.den, ← hu, Array.getElem?_toList]
    · rw [List.getElem?_append_right (by simp; omega)] at hv
      exact .inl (List.eq_of_mem_replicate (List.mem_of_getElem? hv))
  obtain ⟨c', s1, s2, s3⟩ := run_storeCells (P := P) (η := η) xs 0 o hs hb hz hc (by omega)
  have hspl : ∀ (xs cs : List SV) (o j : Nat), (spl cs o xs)[j]? = if j < o then cs[j]? else if j < o + xs.length then (if j < cs.length then xs[j - o]? else none) else cs[j]? := by
    intro xs
    induction xs with
    | nil => intro cs o j; simp only [spl, List.length_nil, Nat.add_zero]; split <;> rfl
    | cons x xs ih =>
      intro cs o j
      simp only [spl, ih, put_eq, List.length_cons, List.length_set]
      by_cases h1 : j < o
      · rw [if_pos (by omega), if_pos h1, List.getElem?_set_ne (by omega)]
      · by_cases h2 : j = o
        · subst h2
          rw [if_pos (by omega), if_neg (by omega), if_pos (by omega)]
          simp [List.getElem?_set]
        · rw [if_neg (by omega), if_neg h1]
          have e1 : j - o = (j - (o + 1)) + 1 := by omega
          rw [e1, List.getElem?_cons_succ, List.getElem?_set_ne (by omega)]
          by_cases h3 : j < o + 1 + xs.length
          · rw [if_pos h3, if_pos (show j < o + (xs.length + 1) by omega)]
          · rw [if_neg h3, if_neg (show ¬ j < o + (xs.length + 1) by omega)]
  refine ⟨c', s1, fun j hj => ?_, fun j v hv => ?_, s3⟩
  · have hjc : j < c.size := by omega
    have := s2.2 j (.val c[j]) (by
      rw [hspl, if_pos (by omega), List.getElem?_append_left (by simp; omega), List.getElem?_take, if_pos hj, List.getElem?_map, Array.getElem?_toList, Array.getElem?_eq_getElem hjc]; rfl)
    rcases this with e | e
    · cases e
    · rw [e, Array.getElem?_eq_getElem hjc]; rfl
  · have hj := (List.getElem?_eq_some_iff.1 hv).1
    have hvs := allScalar_iff hs v (List.mem_of_getElem? hv)
    have := s2.2 (o + j) v (by
      rw [hspl, if_neg (by omega), if_pos (by omega), if_pos (by simp; omega), show o + j - (o + 0) = j by omega]
      exact hv)
    rcases this with e | e
    · subst e; cases hvs
    · exact e

theorem spl_get : ∀ (xs cs : List SV) (o j : Nat), (spl cs o xs)[j]? = if j < o then cs[j]? else if j < o + xs.length then (if j < cs.length then xs[j - o]? else none) else cs[j]? := by
  intro xs
  induction xs with
  | nil => intro cs o j; simp only [spl, List.length_nil, Nat.add_zero]; split <;> rfl
  | cons x xs ih =>
    intro cs o j
    simp only [spl, ih, put_eq, List.length_cons, List.length_set]
    by_cases h1 : j < o
    · rw [if_pos (by omega), if_pos h1, List.getElem?_set_ne (by omega)]
    · by_cases h2 : j = o
      · subst h2
        rw [if_pos (by omega), if_neg (by omega), if_pos (by omega)]
        simp [List.getElem?_set]
      · rw [if_neg (by omega), if_neg h1]
        have e1 : j - o = (j - (o + 1)) + 1 := by omega
        rw [e1, List.getElem?_cons_succ, List.getElem?_set_ne (by omega)]
        by_cases h3 : j < o + 1 + xs.length
        · rw [if_pos h3, if_pos (show j < o + (xs.length + 1) by omega)]
        · rw [if_neg h3, if_neg (show ¬ j < o + (xs.length + 1) by omega)]
theorem run_storeAll {P : Program} {η : Nat → Nat} {b : Nat} {ty : TypeId} {fz : Nat × Nat} {w : World} {c : Array Value} (xs : List SV) (o : Nat) (hs : allScalar xs = true) (hb : w.heap[b]? = some (.cells c ty fz)) (hz : FzOk c.size fz) (hle : o + xs.length ≤ c.size) :
    ∃ c', c'.size = c.size ∧ (∀ j, ¬ (o ≤ j ∧ j < o + xs.length) → c'[j]? = c[j]?) ∧ (∀ j v, xs[j]? = some v → c'[o + j]? = some (v.den η)) ∧ (storeCells ⟨b, o, none⟩ (SV.dens η xs)).run P w = .ok () (w.putObj b (.cells c' ty fz)) := by
  have hc : LRelT η (c.toList.map SV.val) .full c := by
    refine ⟨by simp [ST.ok], fun i v hv => ?_⟩
    rw [List.getElem?_map] at hv
    simp only [Option.map_eq_some_iff] at hv
    obtain ⟨u, hu, rfl⟩ := hv
    right
    rw [SV.den, ← hu, Array.getElem?_toList]
  obtain ⟨c', s1, s2, s3⟩ := run_storeCells (P := P) (η := η) xs 0 o hs hb hz hc (by omega)
  refine ⟨c', s1, fun j hj => ?_, fun j v hv => ?_, s3⟩
  · by_cases hjc : j < c.size
    · have := s2.2 j (.val c[j]) (by
        rw [spl_get]
        have e : (c.toList.map SV.val)[j]? = some (.val c[j]) := by rw [List.getElem?_map, Array.getElem?_toList, Array.getElem?_eq_getElem hjc]; rfl
        by_cases h1 : j < o + 0
        · rw [if_pos h1, e]
        · rw [if_neg h1, if_neg (by omega), e])
      rcases this with e | e
      · cases e
      · rw [e, Array.getElem?_eq_getElem hjc]; rfl
    · rw [Array.getElem?_eq_none (by omega), Array.getElem?_eq_none (by omega)]
  · have hj := (List.getElem?_eq_some_iff.1 hv).1
    have hvs := allScalar_iff hs v (List.mem_of_getElem? hv)
    have := s2.2 (o + j) v (by
      rw [spl_get, if_neg (by omega), if_pos (by omega), if_pos (by simp; omega), show o + j - (o + 0) = j by omega]
      exact hv)
    rcases this with e | e
    · subst e; cases hvs
    · exact e

theorem kEq_eq {k l : IntKind} (h : kEq k l = true) : k = l := by cases k <;> cases l <;> first | rfl | cases h
theorem setFC_sound {fc : FC} {i : Int} {v : SV} {K : FC → Prop} (h : setFC fc i v K) : ∃ fc', K fc' ∧ v.scalar = true ∧ (∀ η, v.den η = fc'.val i) ∧ ∀ j, j ≠ i → fc'.val j = fc.val j := by
  unfold setFC at h
  split at h
  · split at h
    · rename_i hk
      have hk := kEq_eq hk
      subst hk
      exact ⟨_, h _ rfl, rfl, fun η => by simp [SV.den, FC.val, updF], fun j hj => by simp [FC.val, updF, hj]⟩
    · cases h
  · exact ⟨_, h _ rfl, rfl, fun η => by simp [SV.den, FC.val, updF], fun j hj => by simp [FC.val, updF, hj]⟩
  · exact ⟨_, h _ rfl, rfl, fun η => by simp [SV.den, FC.val, updF], fun j hj => by simp [FC.val, updF, hj]⟩
  · cases h
theorem setFCs_sound {i : Int} : ∀ {fs : List FC} {xs : List SV} {K : List FC → Prop}, setFCs i fs xs K → ∃ fs', K fs' ∧ fs'.length = fs.length ∧ allScalar xs = true ∧ xs.length ≤ fs.length ∧ ∀ (k : Nat) (fc' : FC), fs'[k]? = some fc' → ∃ fc, fs[k]? = some fc ∧
    (∀ j, j ≠ i → fc'.val j = fc.val j) ∧ (∀ v, xs[k]? = some v → ∀ η, v.den η = fc'.val i) ∧ (xs[k]? = none → fc'.val i = fc.val i)
  | fs, [], K, h => by
    simp only [setFCs] at h
    exact ⟨fs, h, rfl, rfl, by simp, fun k fc' hk => ⟨fc', hk, fun _ _ => rfl, fun v hv => by simp at hv, fun _ => rfl⟩⟩
  | [], v :: vs, K, h => h.elim
  | fc :: r, v :: vs, K, h => by
    obtain ⟨fc', h, hsc, e1, e2⟩ := setFC_sound h
    obtain ⟨r', hK, hl, hs, hle, hr⟩ := setFCs_sound h
    refine ⟨_, hK, by simp [hl], by simp [allScalar, hsc, hs], by simpa using hle, fun k gc hk => ?_⟩
    cases k with
    | zero =>
      simp at hk; subst hk
      exact ⟨fc, rfl, e2, fun u hu => by simp at hu; subst hu; exact e1, fun hn => by simp at hn⟩
    | succ k =>
      obtain ⟨gc', g1, g2⟩ := hr k gc (by simpa using hk)
      exact ⟨gc', by simpa using g1, g2.1, fun u hu => g2.2.1 u (by simpa using hu), fun hn => g2.2.2 (by simpa using hn)⟩
theorem setAt_sound {i : Int} : ∀ {o : Nat} {fs : List FC} {xs : List SV} {K : List FC → Prop}, setAt i o fs xs K → ∃ fs', K fs' ∧ fs'.length = fs.length ∧ allScalar xs = true ∧ o + xs.length ≤ fs.length ∧ ∀ (k : Nat) (fc' : FC), fs'[k]? = some fc' → ∃ fc, fs[k]? = some fc ∧
    (∀ j, j ≠ i → fc'.val j = fc.val j) ∧ (∀ v, o ≤ k → xs[k - o]? = some v → ∀ η, v.den η = fc'.val i) ∧ (k < o ∨ xs[k - o]? = none → fc'.val i = fc.val i)
  | 0, fs, xs, K, h => by
    obtain ⟨fs', a, b, c, d, e⟩ := setFCs_sound h
    exact ⟨fs', a, b, c, by omega, fun k fc' hk => by
      obtain ⟨fc, e1, e2, e3, e4⟩ := e k fc' hk
      exact ⟨fc, e1, e2, fun v _ hv => e3 v (by simpa using hv), fun hn => e4 (by rcases hn with h | h; omega; simpa using h)⟩⟩
  | o + 1, [], xs, K, h => h.elim
  | o + 1, fc :: r, xs, K, h => by
    obtain ⟨r', a, b, c, d, e⟩ := setAt_sound (o := o) h
    refine ⟨_, a, by simp [b], c, by simp; omega, fun k gc hk => ?_⟩
    cases k with
    | zero =>
      simp at hk; subst hk
      exact ⟨_, rfl, fun _ _ => rfl, fun v hv => by omega, fun _ => rfl⟩
    | succ k =>
      obtain ⟨gc', g1, g2, g3, g4⟩ := e k gc (by simpa using hk)
      refine ⟨gc', by simpa using g1, g2, fun v hv hx => g3 v (by omega) (by rwa [Nat.add_sub_add_right] at hx), fun hn => g4 ?_⟩
      rw [Nat.add_sub_add_right] at hn
      exact hn.imp (by omega) id
theorem setRow_sound : ∀ {xs : List SV} {fc : FC} {i : Int} {K : FC → Prop}, setRow fc i xs K → ∃ fc', K fc' ∧ allScalar xs = true ∧ (∀ (k : Nat) (v : SV), xs[k]? = some v → ∀ η, v.den η = fc'.val (i + k)) ∧ ∀ j : Int, ¬ (i ≤ j ∧ j < i + xs.length) → fc'.val j = fc.val j
  | [], fc, i, K, h => ⟨fc, h, rfl, fun k v hv => by simp at hv, fun _ _ => rfl⟩
  | v :: vs, fc, i, K, h => by
    obtain ⟨fc1, h, hsc, e1, e2⟩ := setFC_sound h
    obtain ⟨fc', hK, hs, e3, e4⟩ := setRow_sound h
    refine ⟨fc', hK, by simp [allScalar, hsc, hs], fun k u hu η => ?_, fun j hj => ?_⟩
    · cases k with
      | zero =>
        simp at hu; subst hu
        rw [e4 _ (by simp; omega), e1 η]; simp
      | succ k =>
        rw [e3 k u (by simpa using hu) η]; congr 1; push_cast; omega
    · rw [e4 j (by simp at hj ⊢; omega), e2 j (by simp at hj; omega)]

theorem grown_hp {hp : Hp} {b : Nat} : (hput hp b none).length = hp.length := by simp

theorem zeroCells_size {zv : Value} {z : Nat} (h : (ofValA zv).cellsL.length = z) (n : Nat) : (Builtin.zeroCells zv.cells n).size = n * z := by
  have hz' : LRel (fun _ => 0) (ofValA zv).cellsL zv.cells := by have := cells_den (ofValA_ne_any zv) (fun _ => 0); rwa [den_ofValA] at this
  rw [size_zc, hz'.1, h]

theorem cells_new {η : Nat → Nat} {cs : List SV} {rest : Array Value} : ∀ (i : Nat) (v : SV), cs[i]? = some v → v = .any ∨ ((SV.dens η cs).toArray ++ rest)[i]? = some (v.den η) := by
  intro i v hv
  right
  have hlt : i < (SV.dens η cs).toArray.size := by
    have := (List.getElem?_eq_some_iff.1 hv).1
    simpa using this
  rw [Array.getElem?_append_left hlt]
  simp only [List.getElem?_toArray, dens_get, hv, Option.map_some]

theorem sAppend_sound {P : Program} {hp : Hp} {ats : Array TypeId} {s x : SV} {K : SV → Hp → Prop} (h : sAppend P hp ats.toList s x K) (ty : TypeId) :
    ∃ v hp', K v hp' ∧ ∀ w0, EffRun P w0 hp v hp' fun η => Builtin.append_ ats ty #[s.den η, x.den η] := by
  unfold sAppend at h
  split at h
  · rename_i t u rest hats
    have h0 : ats[0]? = some t := by rw [← Array.getElem?_toList, hats]; rfl
    have h1 : ats[1]? = some u := by rw [← Array.getElem?_toList, hats]; rfl
    split at h
    · rename_i e d ht hu
      split at h
      · rename_i z by_ zv hd hsz hby hzv
        obtain ⟨i, hi, rfl, hib, hiz⟩ := info_of hsz hby hzv
        split at h
        · rename_i n news hzl hsrc hok
          have hzl := Nat.eq_of_beq_eq_true hzl
          obtain ⟨sc1, sc2, sc3⟩ := src_sound hsrc (P := P)
          have hids := src_ids hok hsrc
          have room : ∀ {m : Nat}, roomy m by_ = true → m * i.bytes ≤ 140737488355328 ∧ m ≤ 140737488355328 := by
            intro m hm
            unfold roomy at hm
            split at hm
            · rename_i r1 r2; rw [hib]; exact ⟨Nat.le_of_ble_eq_true r1, Nat.le_of_ble_eq_true r2⟩
            · cases hm
          have all : ∀ {w0 η w}, HR w0 η hp w → (Builtin.firstCells i.size n (x.den η)).run P w = .ok (SV.dens η news).toArray w := by
            intro w0 η w hr
            have := (sc3 w0 η w hr).2 n (Nat.le_refl _)
            rwa [List.take_of_length_le (by omega)] at this
          split at h
          · -- nil
            split at h
            · rename_i hn
              have hn := Nat.eq_of_beq_eq_true hn
              subst hn
              refine ⟨_, _, h, fun w0 η w hr => ⟨η, w, ?_, hr, PO.refl _ _ _⟩⟩
              exact run_append_none0 h0 h1 ht hu hd hi (sc3 w0 η w hr).1 (all hr)
            · rename_i hn hroom
              have hn := Nat.ne_of_beq_eq_false hn
              obtain ⟨r1, r2⟩ := room hroom
              refine ⟨_, _, h, fun w0 η w hr => ?_⟩
              have hrun := run_append_new (ty := ty) h0 h1 ht hu hd hi hiz (base := none) (sLen := 0) (sCap := 0) (olds := []) (news := SV.dens η news) (w := w) (by simp [run_firstCells_none]) (sc3 w0 η w hr).1 (all hr.drew') (by omega) (by simpa using r1) (by simpa using r2)
              simp only [Nat.zero_add, List.nil_append] at hrun
              obtain ⟨η', m1, m2, m3, m4⟩ := move_grown (w := w.drew) hr.drew' hok (n := n) (z := i.size) (e := e) hids sc2 (c := grownCap w n 0 e) (grownCap_le' _ _ _ _) (fz := (0, 0)) (vs := (SV.dens η news).toArray ++ Builtin.zeroCells zv.cells (grownCap w n 0 e - n)) FzOk.zero
                (by have := grownCap_le' w n 0 e; simp [zeroCells_size hzl, sc2, ← Nat.add_mul]; congr 1; omega) cells_new
              refine ⟨η', _, ?_, m1, m2.drew⟩
              simp only [SV.den, SN.den, m3, m4]
              exact hrun
            · cases h
          · rename_i b o len cap
            split at h
            · rename_i cs bty tl hb
              split at h
              · rename_i c
                split at h
                · rename_i hfit
                  have hfit := Nat.le_of_ble_eq_true hfit
                  split at h
                  · rename_i hle
                    have hle := Nat.le_of_ble_eq_true hle
                    refine ⟨_, _, h, fun w0 η w hr => ?_⟩
                    obtain ⟨c', fz, hc, hz, hheap, _⟩ := cell_at hr hb
                    have hcs := ST.ok_le hc.1
                    obtain ⟨c2, s1, s2, s3⟩ := run_storeCells (P := P) (η := η) news 0 (o + len * i.size) sc1 hheap hz hc (by rw [Nat.add_mul] at hle; omega)
                    obtain ⟨m1, m2⟩ := move_put hr (b := .cells (spl cs (o + len * i.size) news) bty tl) hb ⟨c2, fz, s2, hz.size s1, rfl⟩
                    refine ⟨η, _, ?_, m1, m2⟩
                    have := run_append_fit (ty := ty) h0 h1 ht hu hd hi (a := ⟨η b, o, none⟩) (sLen := len) (sCap := c) (sc3 w0 η w hr).1 (all hr) hfit (by rw [add_ptr]; exact s3)
                    simpa [SV.den] using this
                  · cases h
                · rename_i hfit hroom
                  have hfit : ¬ (len + n ≤ c) := by intro e; rw [Nat.ble_eq_true_of_le e] at hfit; cases hfit
                  obtain ⟨r1, r2⟩ := room hroom
                  split at h
                  · rename_i h2 h3
                    have h2 := Nat.le_of_ble_eq_true h2
                    have hlen : ((cs.drop o).take (len * i.size) ++ news).length = (len + n) * i.size := by simp [sc2, Nat.add_mul]; omega
                    refine ⟨_, _, h, fun w0 η w hr => ?_⟩
                    have hold := first_known (P := P) hr.drew' hb h2 h3 c len
                    have hrun := run_append_new (ty := ty) h0 h1 ht hu hd hi hiz (base := some ⟨η b, o, none⟩) (sLen := len) (sCap := c) (olds := SV.dens η ((cs.drop o).take (len * i.size))) (news := SV.dens η news) (w := w) hold (sc3 w0 η w hr).1 (all hr.drew') (by omega) r1 r2
                    rw [← dens_append] at hrun
                    have hids2 : ∀ v ∈ (cs.drop o).take (len * i.size) ++ news, v.allv (ltb hp.length) = true := by
                      intro v hv
                      rcases List.mem_append.1 hv with hv | hv
                      · exact okHp_mem hok hb v (List.mem_of_mem_drop (List.mem_of_mem_take hv))
                      · exact hids v hv
                    obtain ⟨η', m1, m2, m3, m4⟩ := move_grown (w := w.drew) hr.drew' hok (n := len + n) (z := i.size) (e := e) hids2 hlen (c := grownCap w (len + n) c e) (grownCap_le' _ _ _ _) (fz := (0, 0))
                      (vs := (SV.dens η ((cs.drop o).take (len * i.size) ++ news)).toArray ++ Builtin.zeroCells zv.cells (grownCap w (len + n) c e - (len + n))) FzOk.zero
                      (by
                        have := grownCap_le' w (len + n) c e
                        rw [Array.size_append, zeroCells_size hzl, List.size_toArray, dens_length, hlen, ← Nat.add_mul]
                        congr 1; omega) cells_new
                    refine ⟨η', _, ?_, m1, m2.drew⟩
                    simp only [SV.den, SN.den, m3, m4]
                    exact hrun
                  · cases h
                · cases h
              · rename_i k
                split at h
                · rename_i k' z'
                  split at h
                  · rename_i e1 e2 e3
                    have e1 := Nat.eq_of_beq_eq_true e1
                    have e2 := Nat.eq_of_beq_eq_true e2
                    have e3 := Nat.ne_of_beq_eq_false e3
                    subst e1; subst e2
                    split at h
                    · rename_i f1 f2 f3 f4 f5
                      have f1 := Nat.eq_of_beq_eq_true f1
                      have f2 := Nat.eq_of_beq_eq_true f2
                      have f3 := Nat.eq_of_beq_eq_true f3
                      obtain ⟨r1, r2⟩ := room f4
                      subst f1; subst f3
                      have hlen : (cs ++ news).length = (len + n) * i.size := by simp [sc2, Nat.add_mul, f2]
                      have hids2 : ∀ v ∈ cs ++ news, v.allv (ltb hp.length) = true := by
                        intro v hv
                        rcases List.mem_append.1 hv with hv | hv
                        · exact okHp_mem hok hb v hv
                        · exact hids v hv
                      refine ⟨_, _, h, fun w0 η w hr => ?_⟩
                      obtain ⟨c', fz, hc, hz, hheap, _⟩ := cell_at hr hb
                      obtain ⟨hc1, hc2⟩ := hc
                      simp only [ST.ok] at hc1
                      by_cases hfit : len + n ≤ η k
                      · have hroomc : (len + n) * i.size ≤ η k * i.size := Nat.mul_le_mul_right _ hfit
                        rw [Nat.add_mul] at hroomc
                        have hst := run_storeX (P := P) (η := η) news (len * i.size) sc1 hheap hz (by omega)
                        obtain ⟨c2, s1, s2, s3, s4⟩ := hst
                        obtain ⟨η', m1, m2, m3, m4⟩ := move_regrown hr hok hb (n := len + n) (z := i.size) (e := bty) hids2 hlen (c := η k) hfit (fz := fz) (vs := c2) (hz.size s1) (by rw [s1, hc1.1])
                          (by
                            intro j v hv
                            by_cases hj : j < len * i.size
                            · rw [List.getElem?_append_left (by omega)] at hv
                              exact (hc2 j v hv).imp id fun q => by rw [s2 j hj]; exact q
                            · rw [List.getElem?_append_right (by omega), f2] at hv
                              right
                              have := s3 (j - len * i.size) v hv
                              rwa [show len * i.size + (j - len * i.size) = j by omega] at this)
                        refine ⟨η', _, ?_, m1, m2⟩
                        have := run_append_fit (ty := ty) h0 h1 ht hu hd hi (a := ⟨η b, 0, none⟩) (sLen := len) (sCap := η k) (sc3 w0 η w hr).1 (all hr) hfit (by rw [add_ptr, Nat.zero_add]; exact s4)
                        simp only [SV.den, SN.den, m3, m4]
                        exact this
                      · have hold := first_known (P := P) hr.drew' hb (o := 0) (m := len) (z := i.size) (by omega) (by rw [List.drop_zero, List.take_of_length_le (by omega)]; exact f5) (η k) len
                        rw [List.drop_zero, List.take_of_length_le (by omega)] at hold
                        have hrun := run_append_new (ty := ty) h0 h1 ht hu hd hi hiz (base := some ⟨η b, 0, none⟩) (sLen := len) (sCap := η k) (olds := SV.dens η cs) (news := SV.dens η news) (w := w) hold (sc3 w0 η w hr).1 (all hr.drew') (by omega) r1 r2
                        rw [← dens_append] at hrun
                        obtain ⟨d1, d2⟩ := move_drop (w := w.drew) hr.drew' b
                        have hokd : okHp (ltb (hput hp b none).length) (hput hp b none) = true := by rw [hput_length]; exact okHp_hput hok b
                        obtain ⟨η', m1, m2, m3, m4⟩ := move_grown (w := w.drew) d1 hokd (n := len + n) (z := i.size) (e := bty) (by rw [hput_length]; exact hids2) hlen (c := grownCap w (len + n) (η k) bty) (grownCap_le' _ _ _ _) (fz := (0, 0))
                          (vs := (SV.dens η (cs ++ news)).toArray ++ Builtin.zeroCells zv.cells (grownCap w (len + n) (η k) bty - (len + n))) FzOk.zero
                          (by
                            have := grownCap_le' w (len + n) (η k) bty
                            rw [Array.size_append, zeroCells_size hzl, List.size_toArray, dens_length, hlen, ← Nat.add_mul]
                            congr 1; omega) cells_new
                        rw [hput_length] at m1 m2 m3 m4
                        refine ⟨η', _, ?_, m1, PO.drew (d2.trans m2)⟩
                        simp only [SV.den, SN.den, m3, m4]
                        exact hrun
                    · cases h
                  · cases h
                · cases h
              · cases h
            · cases h
          · rename_i b m cap
            split at h
            · rename_i m' fs bty k' z' k hb
              split at h
              · rename_i e1 e2 e3 e4 e5 e6
                have e1 := Nat.eq_of_beq_eq_true e1
                have e2 := Nat.eq_of_beq_eq_true e2
                have e3 := Nat.eq_of_beq_eq_true e3
                have e4 := Nat.ne_of_beq_eq_false e4
                have e5 := Nat.eq_of_beq_eq_true e5
                subst e1; subst e2; subst e5
                obtain ⟨⟨rfl, r1, r2⟩, h⟩ := h
                obtain ⟨fs', h, f1, f2, f3, f4⟩ := setFCs_sound h
                refine ⟨_, _, h _ rfl, fun w0 η w hr => ?_⟩
                obtain ⟨c', fz, g0, ⟨g1, g2⟩, g3, hz, hheap, hcell⟩ := fblk_at hr hb
                obtain ⟨M, rfl⟩ := Int.eq_ofNat_of_zero_le g0
                rw [Int.toNat_natCast, ← e3] at g2
                have hM2 : ((M : Int) + 1).toNat = M + 1 := by omega
                have r1' : (M + 1) * i.bytes ≤ 140737488355328 := by
                  rw [hib]
                  have : (((M + 1) * by_ : Nat) : Int) ≤ 140737488355328 := by push_cast; exact r1
                  omega
                have r2' : M + 1 ≤ 140737488355328 := by omega
                have hnl : news.length = i.size := by rw [sc2, Nat.one_mul]
                -- what lies then
                have frel : ∀ vs : Array Value, (∀ j, j < M * i.size → vs[j]? = c'[j]?) → (∀ j v, news[j]? = some v → vs[M * i.size + j]? = some (v.den η)) → FRel ((M : Int) + 1) fs' vs := by
                  intro vs v1 v2 a j fc ha hj
                  rw [hM2] at ha
                  obtain ⟨fc0, k1, k2, k3, k4⟩ := f4 j fc hj
                  have hjl : j < i.size := by have := (List.getElem?_eq_some_iff.1 k1).1; omega
                  rw [f1, ← e3]
                  by_cases hlt : a < M
                  · have : (a + 1) * i.size ≤ M * i.size := Nat.mul_le_mul_right _ hlt
                    rw [Nat.add_mul] at this
                    rw [v1 _ (by omega), e3, g3 a j fc0 hlt k1, k2 _ (by omega)]
                  · have : a = M := by omega
                    subst this
                    have hj2 : news[j]? = some news[j] := List.getElem?_eq_getElem (by omega)
                    rw [v2 j _ hj2, k3 _ hj2 η]
                by_cases hfit : M + 1 ≤ η k
                · have hroomc : (M + 1) * i.size ≤ η k * i.size := Nat.mul_le_mul_right _ hfit
                  rw [Nat.add_mul] at hroomc
                  obtain ⟨c2, s1, s2, s3, s4⟩ := run_storeAll (P := P) (η := η) news (M * i.size) sc1 hheap hz (by omega)
                  obtain ⟨η', m1, m2, m3, m4⟩ := move_regrownB hr hok hb (c := η k) (nb := .fblk ((M : Int) + 1) fs' bty (.ltr hp.length i.size)) (o := .cells c2 bty fz)
                    ⟨c2, fz, ⟨by omega, ⟨by rw [upd_lt _ (by omega), upd_same, s1, g1], by rw [hM2, f1, ← e3, s1, g1]; exact Nat.mul_le_mul_right _ hfit⟩, frel c2 (fun j hj => s2 j (by omega)) s3⟩, hz.size s1, rfl⟩
                  refine ⟨η', _, ?_, m1, m2⟩
                  have := run_append_fit (ty := ty) h0 h1 ht hu hd hi (a := ⟨η b, 0, none⟩) (sLen := M) (sCap := η k) (sc3 w0 η w hr).1 (all hr) hfit (by rw [add_ptr, Nat.zero_add]; exact s4)
                  simp only [SV.den, SN.den, m3, m4, hM2]
                  exact this
                · have hold : (Builtin.firstCells i.size M (.slice (some ⟨η b, 0, none⟩) M (η k))).run P w.drew = .ok (c'.toList.take (M * i.size)).toArray w.drew := by
                    refine run_firstCells_some (P := P) w.drew i.size M ⟨η b, 0, none⟩ M (η k) _ (by simp; omega) fun j v hv => ?_
                    have : w.drew.cell? ⟨η b, 0 + j, none⟩ = c'[0 + j]? := (fblk_at hr.drew' hb).elim fun _ _ => hcell _
                    rw [add_ptr, this, Nat.zero_add]
                    rw [List.getElem?_take] at hv
                    split at hv
                    · rwa [Array.getElem?_toList] at hv
                    · cases hv
                  have hrun := run_append_new (ty := ty) h0 h1 ht hu hd hi hiz (base := some ⟨η b, 0, none⟩) (sLen := M) (sCap := η k) (olds := c'.toList.take (M * i.size)) (news := SV.dens η news) (w := w) hold (sc3 w0 η w hr).1 (all hr.drew') (by omega) r1' r2'
                  obtain ⟨d1, d2⟩ := move_drop (w := w.drew) hr.drew' b
                  have hokd : okHp (ltb (hput hp b none).length) (hput hp b none) = true := by rw [hput_length]; exact okHp_hput hok b
                  have hgc := grownCap_le' w (M + 1) (η k) bty
                  have hol : (c'.toList.take (M * i.size)).length = M * i.size := by simp; omega
                  obtain ⟨η', m1, m2, m3, m4⟩ := move_grownB (w := w.drew) d1 hokd (c := grownCap w (M + 1) (η k) bty) (b := .fblk ((M : Int) + 1) fs' bty (.ltr hp.length i.size))
                    (o := .cells ((c'.toList.take (M * i.size) ++ SV.dens η news).toArray ++ Builtin.zeroCells zv.cells (grownCap w (M + 1) (η k) bty - (M + 1))) bty)
                    (by
                      have hsz : ((c'.toList.take (M * i.size) ++ SV.dens η news).toArray ++ Builtin.zeroCells zv.cells (grownCap w (M + 1) (η k) bty - (M + 1))).size = grownCap w (M + 1) (η k) bty * i.size := by
                        rw [Array.size_append, zeroCells_size hzl, List.size_toArray, List.length_append, hol, dens_length, hnl, ← Nat.succ_mul, ← Nat.add_mul]
                        congr 1; omega
                      refine ⟨_, (0, 0), ⟨by omega, ⟨?_, ?_⟩, frel _ (fun j hj => ?_) fun j v hv => ?_⟩, FzOk.zero, rfl⟩
                      · rw [hput_length, upd_lt _ (by omega), upd_same, hsz]
                      · rw [hM2, f1, ← e3, hsz]; exact Nat.mul_le_mul_right _ hgc
                      · rw [Array.getElem?_append_left (by simp; omega), List.getElem?_toArray, List.getElem?_append_left (by omega), List.getElem?_take, if_pos hj, Array.getElem?_toList]
                      · have hjl := (List.getElem?_eq_some_iff.1 hv).1
                        rw [Array.getElem?_append_left (by simp; omega), List.getElem?_toArray, List.getElem?_append_right (by omega), hol, show M * i.size + j - M * i.size = j by omega, dens_get, hv]; rfl)
                  rw [hput_length] at m3 m4
                  refine ⟨η', _, ?_, m1, PO.drew (d2.trans m2)⟩
                  simp only [SV.den, SN.den, m3, m4, hM2]
                  exact hrun
              · cases h
            · cases h
          · cases h
        · cases h
      · cases h
    · cases h
  · cases h

theorem sCopy_sound {P : Program} {hp : Hp} {ats : Array TypeId} {d x : SV} {K : SV → Hp → Prop} (h : sCopy P hp ats.toList d x K) (ty : TypeId) :
    ∃ v hp', K v hp' ∧ ∀ w0, EffRun P w0 hp v hp' fun η => Builtin.copy_ ats ty #[d.den η, x.den η] := by
  unfold sCopy at h
  split at h
  · rename_i t rest hats
    have h0 : ats[0]? = some t := by rw [← Array.getElem?_toList, hats]; rfl
    split at h
    · rename_i e ht
      split at h
      · rename_i z hz
        obtain ⟨i, hi, rfl⟩ := info_sz hz
        split at h
        · rename_i q hsrc
          obtain ⟨n, news⟩ := q
          obtain ⟨sc1, sc2, sc3⟩ := src_sound hsrc (P := P)
          refine ⟨_, _, h, fun w0 η w hr => ⟨η, w, ?_, hr, PO.refl _ _ _⟩⟩
          have hf := (sc3 w0 η w hr).2 0 (Nat.zero_le _)
          have hm : Nat.min n 0 = 0 := Nat.min_zero n
          simp [Builtin.copy_, h0, run_underlying ht, SV.den, sizeOf, typeInfo, hi, (sc3 w0 η w hr).1, hf, hm, goInt]
        · rename_i b o len c n news hsrc
          obtain ⟨sc1, sc2, sc3⟩ := src_sound hsrc (P := P)
          split at h
          · rename_i cs bty tl hb
            split at h
            · rename_i hle
              have hle := Nat.le_of_ble_eq_true hle
              refine ⟨_, _, h, fun w0 η w hr => ?_⟩
              obtain ⟨c', fz, hc, hz', hheap, _⟩ := cell_at hr hb
              have hcs := ST.ok_le hc.1
              have hml : Nat.min n len ≤ n := Nat.min_le_left _ _
              have hlt : (news.take (Nat.min n len * i.size)).length ≤ Nat.min n len * i.size := by simp; omega
              have sct := allScalar_take sc1 (Nat.min n len * i.size)
              obtain ⟨c2, s1, s2, s3⟩ := run_storeCells (P := P) (η := η) _ 0 o sct hheap hz' hc (by omega)
              obtain ⟨m1, m2⟩ := move_put hr (b := .cells (spl cs o (news.take (Nat.min n len * i.size))) bty tl) hb ⟨c2, fz, s2, hz'.size s1, rfl⟩
              refine ⟨η, _, ?_, m1, m2⟩
              have hf := (sc3 w0 η w hr).2 _ hml
              simp [Builtin.copy_, h0, run_underlying ht, SV.den, sizeOf, typeInfo, hi, (sc3 w0 η w hr).1, hf, goInt, s3]
            · cases h
          · cases h
        · cases h
      · cases h
    · cases h
  · cases h

theorem mkBytes_fold (l : List Int) : l.foldl (fun (r : ByteArray) (n : Int) => r.push (UInt8.ofNat n.toNat)) ByteArray.empty = mkBytes l := by
  have key : ∀ (l : List Int) (r : ByteArray), l.foldl (fun (r : ByteArray) (n : Int) => r.push (UInt8.ofNat n.toNat)) r = ⟨r.data ++ (l.map fun n => UInt8.ofNat n.toNat).toArray⟩ := by
    intro l
    induction l with
    | nil => intro r; simp
    | cons n l ih =>
      intro r
      simp only [List.foldl_cons, ih, List.map_cons]
      congr 1
      apply Array.toList_inj.1
      simp [ByteArray.push]
  rw [key]
  simp [mkBytes, ByteArray.empty, ByteArray.emptyWithCapacity]
  rfl

theorem bytesOfCells_den {η : Nat → Nat} : ∀ {l : List SV} {ns : List Int}, bytesOfCells l = some ns → SV.dens η l = ns.map (Value.int .u8)
  | [], ns, h => by simp only [bytesOfCells] at h; injection h with h; subst h; rfl
  | c :: r, ns, h => by
    unfold bytesOfCells at h
    split at h
    · rename_i heq; cases heq
    · rename_i n r' heq
      injection heq with e1 e2
      subst e1; subst e2
      split at h
      · rename_i l hl
        injection h with h; subst h
        simp only [SV.dens, SV.den, List.map_cons, bytesOfCells_den hl]
      · cases h
    · cases h

theorem bytesOfCells_noAny : ∀ {l : List SV} {ns : List Int}, bytesOfCells l = some ns → noAny l = true
  | [], ns, h => rfl
  | c :: r, ns, h => by
    unfold bytesOfCells at h
    split at h
    · rename_i heq; cases heq
    · rename_i n r' heq
      injection heq with e1 e2
      subst e1; subst e2
      split at h
      · rename_i l hl
        simp only [noAny, SV.isAny]; exact bytesOfCells_noAny hl
      · cases h
    · cases h

theorem byteCells_ids {p : Nat → Bool} (s : ByteArray) : ∀ v ∈ byteCells s, v.allv p = true := by
  intro v hv
  simp only [byteCells, List.mem_map] at hv
  obtain ⟨b, _, rfl⟩ := hv
  rfl

theorem byteCells_dens (s : ByteArray) (η : Nat → Nat) : (SV.dens η (byteCells s)).toArray = s.data.map fun b => Value.int .u8 b.toNat := by
  apply Array.toList_inj.1
  simp [byteCells, dens_map, SV.den]

theorem run_stringBytes {P : Program} {src dst e : TypeId} {η : Nat → Nat} {w : World} (hs : P.underlying src = some .string) (hd : P.underlying dst = some (.slice e)) (he : P.underlying e = some (.int .u8)) (s : ByteArray) :
    (convert src dst (.string s)).run P w = .ok (.slice (some ⟨w.drew.heap.size, 0, none⟩) s.size (grownCap w s.size 0 e))
      (w.drew.alloc (.cells ((SV.dens η (byteCells s)).toArray ++ Array.replicate (grownCap w s.size 0 e - s.size) (.int .u8 0)) e (grownCap w s.size 0 e, grownCap w s.size 0 e + 1))) := by
  rw [byteCells_dens]
  have hsz : (bytesRow s (grownCap w s.size 0 e)).size = grownCap w s.size 0 e := by
    have := grownCap_le' w s.size 0 e
    have e1 : s.data.size = s.size := rfl
    simp [bytesRow]
    omega
  have := run_bytes_of_string (P := P) w src dst e s hs hd he
  rw [hsz] at this
  exact this

theorem byteCells_get (x : ByteArray) (i : Nat) (h : i < x.size) (η : Nat → Nat) : (SV.dens η (byteCells x))[i]? = some (.int .u8 (byteAt x (i : Int))) := by
  have hsd : i < x.data.size := h
  have e2 : (byteCells x)[i]? = some (.int .u8 (.lit x.data[i].toNat)) := by simp only [byteCells, List.getElem?_map, Array.getElem?_toList, Array.getElem?_eq_getElem hsd]; rfl
  have e3 : byteAt x (i : Int) = x.data[i].toNat := by simp only [byteAt, Int.toNat_natCast, Array.getElem?_toList, Array.getElem?_eq_getElem hsd]; rfl
  rw [dens_get, e2, e3]; rfl
theorem sAppStr_sound {P : Program} {hp : Hp} {ats : Array TypeId} {s : SV} {x : ByteArray} {K : SV → Hp → Prop} (h : sAppStr P hp ats.toList s x K) (ty : TypeId) :
    ∃ v hp', K v hp' ∧ ∀ w0, EffRun P w0 hp v hp' fun η => Builtin.append_ ats ty #[s.den η, .string x] := by
  unfold sAppStr at h
  split at h
  · rename_i t u rest hats
    have h0 : ats[0]? = some t := by rw [← Array.getElem?_toList, hats]; rfl
    have h1 : ats[1]? = some u := by rw [← Array.getElem?_toList, hats]; rfl
    split at h
    · rename_i e d ht hu
      split at h
      · rename_i z by_ zv hd hsz hby hzv
        obtain ⟨i, hi, rfl, hib, hiz⟩ := info_of hsz hby hzv
        split at h
        · rename_i hz1 hzl hok
          have hz1 := Nat.eq_of_beq_eq_true hz1
          have hzl := Nat.eq_of_beq_eq_true hzl
          have hsrc : srcCells hp i.size (.str (.lit x)) = some (x.size, byteCells x) := by simp only [srcCells, hz1, Nat.beq_refl]
          obtain ⟨sc1, sc2, sc3⟩ := src_sound hsrc (P := P)
          have hbl : (byteCells x).length = x.size := by simp [byteCells]
          have all : ∀ {w0 η w}, HR w0 η hp w → (Builtin.firstCells i.size x.size (.string x)).run P w = .ok (SV.dens η (byteCells x)).toArray w := by
            intro w0 η w hr
            have := (sc3 w0 η w hr).2 x.size (Nat.le_refl _)
            rwa [List.take_of_length_le (by simp [hz1, hbl])] at this
          split at h
          · obtain ⟨⟨r0, r1, r2⟩, h⟩ := h
            refine ⟨_, _, h _ rfl, fun w0 η w hr => ?_⟩
            have r1' : x.size * i.bytes ≤ 140737488355328 := by
              rw [hib]
              have : ((x.size * by_ : Nat) : Int) ≤ 140737488355328 := by push_cast; exact r1
              omega
            have hrun := run_append_new (ty := ty) h0 h1 ht hu hd hi hiz (base := none) (sLen := 0) (sCap := 0) (olds := []) (news := SV.dens η (byteCells x)) (w := w) (by simp [run_firstCells_none]) (sc3 w0 η w hr).1 (all hr.drew') (by omega) (by simpa using r1') (by omega)
            simp only [Nat.zero_add, List.nil_append] at hrun
            have hgc := grownCap_le' w x.size 0 e
            obtain ⟨η', m1, m2, m3, m4⟩ := move_grownB (w := w.drew) hr.drew' hok (c := grownCap w x.size 0 e) (b := .fblk (x.size : Int) [.int .u8 (byteAt x)] e (.ltr hp.length 1))
              (o := .cells ((SV.dens η (byteCells x)).toArray ++ Builtin.zeroCells zv.cells (grownCap w x.size 0 e - x.size)) e)
              (by
                have hs : ((SV.dens η (byteCells x)).toArray ++ Builtin.zeroCells zv.cells (grownCap w x.size 0 e - x.size)).size = grownCap w x.size 0 e * 1 := by
                  rw [Array.size_append, zeroCells_size hzl, List.size_toArray, dens_length, hbl, hz1]; omega
                refine ⟨_, (0, 0), ⟨by omega, ⟨by rw [upd_lt _ (by omega), upd_same, hs], by rw [hs]; simpa using hgc⟩, fun a j fc ha hj => ?_⟩, FzOk.zero, rfl⟩
                have ha' : a < x.size := by simpa using ha
                cases j with
                | succ j => simp at hj
                | zero =>
                  simp at hj; subst hj
                  rw [List.length_singleton, show a * 1 + 0 = a by omega, Array.getElem?_append_left (by simp [hbl]; exact ha'), List.getElem?_toArray, byteCells_get x a ha']
                  rfl)
            refine ⟨η', _, ?_, m1, m2.drew⟩
            simp only [SV.den, SN.den, m3, m4, Int.toNat_natCast]
            exact hrun
          · rename_i b m k
            split at h
            · rename_i m' f bty k' z' hb
              split at h
              · rename_i e1 e2 e5
                have e1 := Nat.eq_of_beq_eq_true e1
                have e2 := Nat.eq_of_beq_eq_true e2
                have e5 := Nat.eq_of_beq_eq_true e5
                subst e1; subst e2; subst e5
                obtain ⟨⟨rfl, r1, r2⟩, h⟩ := h
                refine ⟨_, _, h _ rfl, fun w0 η w hr => ?_⟩
                obtain ⟨c', fz, g0, ⟨g1, g2⟩, g3, hz, hheap, hcell⟩ := fblk_at hr hb
                obtain ⟨M, rfl⟩ := Int.eq_ofNat_of_zero_le g0
                rw [Int.toNat_natCast, List.length_singleton, Nat.mul_one] at g2
                have hM2 : ((M : Int) + (x.size : Int)).toNat = M + x.size := by omega
                have r1' : (M + x.size) * i.bytes ≤ 140737488355328 := by
                  rw [hib]
                  have : (((M + x.size) * by_ : Nat) : Int) ≤ 140737488355328 := by push_cast; exact r1
                  omega
                have r2' : M + x.size ≤ 140737488355328 := by omega
                have frel : ∀ vs : Array Value, (∀ j, j < M → vs[j]? = c'[j]?) → (∀ j, j < x.size → vs[M + j]? = (SV.dens η (byteCells x))[j]?) → FRel ((M : Int) + (x.size : Int)) [.int .u8 (catF f (M : Int) x)] vs := by
                  intro vs v1 v2 a j fc ha hj
                  rw [hM2] at ha
                  cases j with
                  | succ j => simp at hj
                  | zero =>
                    simp at hj; subst hj
                    rw [List.length_singleton, show a * 1 + 0 = a by omega]
                    by_cases hlt : a < M
                    · rw [v1 _ hlt, g3.row1 (by omega)]
                      simp only [FC.val, catF]
                      rw [if_pos (by omega)]
                    · have e : a = M + (a - M) := by omega
                      rw [e, v2 _ (by omega), byteCells_get x _ (by omega)]
                      simp only [FC.val, catF]
                      rw [if_neg (by omega)]
                      congr 3
                      omega
                by_cases hfit : M + x.size ≤ η k
                · obtain ⟨c2, s1, s2, s3, s4⟩ := run_storeAll (P := P) (η := η) (byteCells x) M sc1 hheap hz (by rw [hbl]; omega)
                  obtain ⟨η', m1, m2, m3, m4⟩ := move_regrownB hr hok hb (c := η k) (nb := .fblk ((M : Int) + (x.size : Int)) [.int .u8 (catF f (M : Int) x)] bty (.ltr hp.length 1)) (o := .cells c2 bty fz)
                    ⟨c2, fz, ⟨by omega, ⟨by rw [upd_lt _ (by omega), upd_same, s1, g1], by rw [hM2, List.length_singleton, s1, g1]; omega⟩, frel c2 (fun j hj => s2 j (by omega)) (fun j hj => by
                      have e2 := byteCells_get x j hj η
                      rw [e2]
                      have hjb : j < (byteCells x).length := by omega
                      have := s3 j _ (List.getElem?_eq_getElem hjb)
                      rw [this]
                      rw [dens_get, List.getElem?_eq_getElem hjb] at e2
                      simpa using e2)⟩, hz.size s1, rfl⟩
                  refine ⟨η', _, ?_, m1, m2⟩
                  have := run_append_fit (ty := ty) h0 h1 ht hu hd hi (a := ⟨η b, 0, none⟩) (sLen := M) (sCap := η k) (sc3 w0 η w hr).1 (all hr) hfit (by rw [add_ptr, Nat.zero_add, hz1, Nat.mul_one]; exact s4)
                  simp only [SV.den, SN.den, m3, m4, hM2, Int.toNat_natCast]
                  exact this
                · have hold : (Builtin.firstCells i.size M (.slice (some ⟨η b, 0, none⟩) M (η k))).run P w.drew = .ok (c'.toList.take M).toArray w.drew := by
                    refine run_firstCells_some (P := P) w.drew i.size M ⟨η b, 0, none⟩ M (η k) _ (by simp [hz1]; omega) fun j v hv => ?_
                    have : w.drew.cell? ⟨η b, 0 + j, none⟩ = c'[0 + j]? := (fblk_at hr.drew' hb).elim fun _ _ => hcell _
                    rw [add_ptr, this, Nat.zero_add]
                    rw [List.getElem?_take] at hv
                    split at hv
                    · rwa [Array.getElem?_toList] at hv
                    · cases hv
                  have hrun := run_append_new (ty := ty) h0 h1 ht hu hd hi hiz (base := some ⟨η b, 0, none⟩) (sLen := M) (sCap := η k) (olds := c'.toList.take M) (news := SV.dens η (byteCells x)) (w := w) hold (sc3 w0 η w hr).1 (all hr.drew') (by omega) r1' r2'
                  obtain ⟨d1, d2⟩ := move_drop (w := w.drew) hr.drew' b
                  have hokd : okHp (ltb (hput hp b none).length) (hput hp b none) = true := by rw [hput_length]; exact okHp_hput hok b
                  have hgc := grownCap_le' w (M + x.size) (η k) bty
                  have hol : (c'.toList.take M).length = M := by simp; omega
                  obtain ⟨η', m1, m2, m3, m4⟩ := move_grownB (w := w.drew) d1 hokd (c := grownCap w (M + x.size) (η k) bty) (b := .fblk ((M : Int) + (x.size : Int)) [.int .u8 (catF f (M : Int) x)] bty (.ltr hp.length 1))
                    (o := .cells ((c'.toList.take M ++ SV.dens η (byteCells x)).toArray ++ Builtin.zeroCells zv.cells (grownCap w (M + x.size) (η k) bty - (M + x.size))) bty)
                    (by
                      have hsz : ((c'.toList.take M ++ SV.dens η (byteCells x)).toArray ++ Builtin.zeroCells zv.cells (grownCap w (M + x.size) (η k) bty - (M + x.size))).size = grownCap w (M + x.size) (η k) bty * 1 := by
                        rw [Array.size_append, zeroCells_size hzl, List.size_toArray, List.length_append, hol, dens_length, hbl, hz1]; omega
                      refine ⟨_, (0, 0), ⟨by omega, ⟨?_, ?_⟩, frel _ (fun j hj => ?_) fun j hj => ?_⟩, FzOk.zero, rfl⟩
                      · rw [hput_length, upd_lt _ (by omega), upd_same, hsz]
                      · rw [hM2, List.length_singleton, hsz]; omega
                      · rw [Array.getElem?_append_left (by simp [hbl]; omega), List.getElem?_toArray, List.getElem?_append_left (by omega), List.getElem?_take, if_pos hj, Array.getElem?_toList]
                      · rw [Array.getElem?_append_left (by simp [hbl]; omega), List.getElem?_toArray, List.getElem?_append_right (by omega), hol, show M + j - M = j by omega])
                  rw [hput_length] at m3 m4
                  refine ⟨η', _, ?_, m1, PO.drew (d2.trans m2)⟩
                  simp only [SV.den, SN.den, m3, m4, hM2, Int.toNat_natCast]
                  exact hrun
              · cases h
            · cases h
          · cases h
        · cases h
      · cases h
    · cases h
  · cases h

theorem sConvE_sound {P : Program} {hp : Hp} {src dst : TypeId} {x : SV} {K : SV → Hp → Prop} (h : sConvE P hp src dst x K) :
    ∃ v hp', K v hp' ∧ ∀ w0, EffRun P w0 hp v hp' fun η => convert src dst (x.den η) := by
  unfold sConvE at h
  split at h
  · rename_i e b o l c hs hd
    split at h
    · rename_i cs bty tl he hb
      split at h
      · rename_i ns hle hns
        have hle := Nat.le_of_ble_eq_true hle
        have hk : ∃ v, K v hp ∧ ∀ η, v.den η = .string (mkBytes ns) := by
          split at h
          · exact ⟨_, h, fun η => rfl⟩
          · exact ⟨_, h _ rfl, fun η => rfl⟩
        obtain ⟨v, hv, hve⟩ := hk
        refine ⟨v, _, hv, fun w0 η w hr => ⟨η, w, ?_, hr, PO.refl _ _ _⟩⟩
        have hf := first_known (P := P) hr hb (z := 1) (m := l) (o := o) (by omega) (by rw [Nat.mul_one]; exact bytesOfCells_noAny hns) 0 0
        rw [Nat.mul_one, bytesOfCells_den hns] at hf
        simp only [Builtin.firstCells, Nat.mul_one] at hf
        show (convert src dst (.slice (some ⟨η b, o, none⟩) l (c.den η))).run P w = _
        rw [run_convert_bytes_string w src dst e _ _ _ hs he hd, run_bytesToString w _ _ _ ns hf, mkBytes_fold, hve]
      · cases h
    · cases h
  · rename_i e b n c hs hd
    split at h
    · rename_i n' f bty tl he hb
      obtain ⟨⟨h0, h1⟩, h⟩ := h
      refine ⟨_, _, h _ rfl, fun w0 η w hr => ⟨η, w, ?_, hr, PO.refl _ _ _⟩⟩
      obtain ⟨c', fz, g0, g1, g2, hz, hheap, hcell⟩ := fblk_at hr hb
      have hf := run_firstCells_some (P := P) w 1 n.toNat ⟨η b, 0, none⟩ 0 0 (((List.range n.toNat).map fun (i : Nat) => f (i : Int)).map (Value.int .u8)) (by simp) fun j v hv => by
        rw [add_ptr, hcell]
        simp only [List.getElem?_map, Option.map_eq_some_iff] at hv
        obtain ⟨u, ⟨j', hj, rfl⟩, rfl⟩ := hv
        obtain ⟨hjl, hje⟩ := List.getElem?_eq_some_iff.1 hj
        simp at hjl hje
        subst hje
        rw [Nat.zero_add]
        exact g2.row1 (by omega)
      simp only [Builtin.firstCells, Nat.mul_one] at hf
      show (convert src dst (.slice (some ⟨η b, 0, none⟩) n.toNat (c.den η))).run P w = _
      rw [run_convert_bytes_string w src dst e _ _ _ hs he hd, run_bytesToString w _ _ _ _ hf, mkBytes_fold]
      simp [SV.den, mkBytes, fbytes]
    · cases h
  · rename_i e b o n c hs hd
    split at h
    · rename_i n' f bty tl he hb
      obtain ⟨⟨o0, h0, h1⟩, h⟩ := h
      refine ⟨_, _, h _ rfl, fun w0 η w hr => ⟨η, w, ?_, hr, PO.refl _ _ _⟩⟩
      obtain ⟨c', fz, g0, g1, g2, hz, hheap, hcell⟩ := fblk_at hr hb
      have hf := run_firstCells_some (P := P) w 1 n.toNat ⟨η b, o.toNat * 1, none⟩ 0 0 (((List.range n.toNat).map fun (i : Nat) => f (o + (i : Int))).map (Value.int .u8)) (by simp) fun j v hv => by
        rw [add_ptr, hcell]
        simp only [List.getElem?_map, Option.map_eq_some_iff] at hv
        obtain ⟨u, ⟨j', hj, rfl⟩, rfl⟩ := hv
        obtain ⟨hjl, hje⟩ := List.getElem?_eq_some_iff.1 hj
        simp at hjl hje
        subst hje
        have := g2.row1 (i := o.toNat + j) (by omega)
        have e1 : ((o.toNat + j : Nat) : Int) = o + (j : Int) := by omega
        rw [e1] at this
        rw [Nat.mul_one]
        exact this
      simp only [Builtin.firstCells, Nat.mul_one] at hf
      show (convert src dst (.slice (some ⟨η b, o.toNat * 1, none⟩) n.toNat c.toNat)).run P w = _
      rw [Nat.mul_one, run_convert_bytes_string w src dst e _ _ _ hs he hd, run_bytesToString w _ _ _ _ hf, mkBytes_fold]
      simp [SV.den, mkBytes, fbytes]
    · cases h
  · rename_i e hs hd
    split at h
    · rename_i he
      refine ⟨_, _, h, fun w0 η w hr => ⟨η, w, ?_, hr, PO.refl _ _ _⟩⟩
      show (convert src dst (.slice none 0 0)).run P w = _
      rw [run_convert_bytes_string w src dst e _ _ _ hs he hd]
      rfl
    · cases h
  · rename_i e s hs hd
    split at h
    · rename_i he hok
      refine ⟨_, _, h, fun w0 η w hr => ?_⟩
      let c := grownCap w s.size 0 e
      have hc : s.size ≤ c := grownCap_le' _ _ _ _
      let vs : Array Value := (SV.dens η (byteCells s)).toArray ++ Array.replicate (c - s.size) (.int .u8 0)
      have hvs : vs.size = c * 1 := by simp [vs, byteCells]; omega
      have hbl : (byteCells s).length = s.size * 1 := by simp [byteCells]
      obtain ⟨η', m1, m2, m3, m4⟩ := move_grown (w := w.drew) hr.drew' hok (n := s.size) (z := 1) (e := e) (cs := byteCells s) (byteCells_ids _) hbl (c := c) hc (fz := (c, c + 1)) (vs := vs) (fun o ho hh => by have := hh.1; simp at this; omega) hvs cells_new
      refine ⟨η', _, ?_, m1, m2.drew⟩
      simp only [SV.den, SN.den, m3, m4]
      exact run_stringBytes hs hd he s
    · cases h
  · rename_i e s hs hd
    split at h
    · rename_i he hok
      refine ⟨_, _, h _ rfl, fun w0 η w hr => ?_⟩
      let c := grownCap w s.size 0 e
      have hc : s.size ≤ c := grownCap_le' _ _ _ _
      let vs : Array Value := (SV.dens η (byteCells s)).toArray ++ Array.replicate (c - s.size) (.int .u8 0)
      have hbl : (byteCells s).length = s.size := by simp [byteCells]
      have hvs : vs.size = c := by simp [vs, hbl]; omega
      obtain ⟨η', m1, m2, m3, m4⟩ := move_grownB (w := w.drew) hr.drew' hok (c := c) (b := .fblk (s.size : Int) [.int .u8 (byteAt s)] e (.ltr hp.length 1)) (o := .cells vs e (c, c + 1))
        ⟨vs, (c, c + 1), ⟨by omega, ⟨by rw [upd_lt _ (by omega), upd_same, hvs, Nat.mul_one], by rw [hvs]; simpa using hc⟩, fun i j fc hi hj => by
          have hi' : i < s.size := by simpa using hi
          cases j with
          | succ j => simp at hj
          | zero =>
            simp at hj; subst hj
            have hsd : i < s.data.size := hi'
            have e1 : (i * 1 + 0) = i := by omega
            rw [List.length_singleton, e1]
            have e2 : (byteCells s)[i]? = some (.int .u8 (.lit s.data[i].toNat)) := by simp only [byteCells, List.getElem?_map, Array.getElem?_toList, Array.getElem?_eq_getElem hsd]; rfl
            rw [Array.getElem?_append_left (by simp [hbl]; exact hi'), List.getElem?_toArray, dens_get, e2]
            have e3 : byteAt s (i : Int) = s.data[i].toNat := by simp only [byteAt, Int.toNat_natCast, Array.getElem?_toList, Array.getElem?_eq_getElem hsd]; rfl
            simp only [Option.map_some, SV.den, SI.val_lit, FC.val, e3]⟩, (fun o ho hh => by have := hh.1; simp at this; omega), rfl⟩
      refine ⟨η', _, ?_, m1, m2.drew⟩
      simp only [SV.den, SN.den, m3, m4, Int.toNat_natCast]
      exact run_stringBytes hs hd he s
    · cases h
  · rename_i t b o hs hd
    split at h
    · rename_i cs ty tl hi hb
      split at h
      · rename_i hle
        have hle := Nat.le_of_ble_eq_true hle
        obtain ⟨j, hj, hz⟩ : ∃ j, P.info? t = some j ∧ j.size ≠ 0 := by
          unfold ptrSz at hi
          split at hi
          · rename_i j hj
            refine ⟨j, hj, fun z => ?_⟩
            rw [z] at hi
            cases hi
          · cases hi
        refine ⟨_, _, h, fun w0 η w hr => ⟨η, w, ?_, hr, PO.refl _ _ _⟩⟩
        obtain ⟨c, fz, hc, _, hheap, _⟩ := cell_at hr hb
        exact Go.Lib.run_to_unsafe w ⟨η b, o, none⟩ hs hd hj hz (e := ty) (cells := c.size) (by simp [World.shape?, hheap]) (by have := (ST.ok_le hc.1); simp only; omega)
      · cases h
    · cases h
  · rename_i u b o hs hd
    split at h
    · rename_i cs ty hi hb
      split at h
      · rename_i hlies
        obtain ⟨j, hj⟩ : ∃ j, P.info? u = some j := by
          unfold hasInfo at hi
          split at hi
          · exact ⟨_, by assumption⟩
          · cases hi
        refine ⟨_, _, h, fun w0 η w hr => ⟨η, w, ?_, hr, PO.refl _ _ _⟩⟩
        obtain ⟨c, fz, hc, _, hheap, _⟩ := cell_at hr hb
        have hsz : c.size = cs.length := hc.1
        exact Go.Lib.run_from_unsafe w ⟨η b, o, none⟩ hs hd hj (e := ty) (cells := c.size) (by simp [World.shape?, hheap]) (by rw [hsz]; exact hlies)
      · cases h
    · cases h
  · obtain ⟨v, hv, hva, hr⟩ := sConv_sound h
    exact ⟨v, hp, hv, fun w0 η w hh => ⟨η, w, hr w η, hh, PO.refl _ _ _⟩⟩

theorem sSlData_sound {P : Program} {hp : Hp} {x : SV} {K : SV → Hp → Prop} (h : sSlData hp x K) (ats : Array TypeId) (ty : TypeId) :
    ∃ v hp', K v hp' ∧ ∀ w0, EffRun P w0 hp v hp' fun η => Builtin.unsafeSliceData_ ats ty #[x.den η] := by
  unfold sSlData at h
  split at h
  · rename_i b o l k
    split at h
    · rename_i c0 r bty k' z hb
      split at h
      · rename_i hk
        have hk := Nat.eq_of_beq_eq_true hk
        subst hk
        refine ⟨_, _, h, fun w0 η w hr => ⟨η, w, ?_, hr, PO.refl _ _ _⟩⟩
        obtain ⟨c, fz, hc, _, hheap, _⟩ := cell_at hr hb
        have h1 : c.size = η k * z ∧ (c0 :: r).length ≤ c.size := hc.1
        have h2 : η k ≠ 0 := fun e => by
          obtain ⟨q1, q2⟩ := h1
          rw [e, Nat.zero_mul] at q1
          simp only [List.length_cons] at q2
          omega
        exact Go.Lib.run_unsafeSliceData_row w ats ty ⟨η b, o, none⟩ l (η k) h2
      · cases h
    · cases h
  · rename_i b n k
    split at h
    · rename_i n' c0 r bty k' z hb
      split at h
      · rename_i hk
        have hk := Nat.eq_of_beq_eq_true hk
        subst hk
        obtain ⟨⟨n0, n1⟩, h⟩ := h
        refine ⟨_, _, h, fun w0 η w hr => ⟨η, w, ?_, hr, PO.refl _ _ _⟩⟩
        obtain ⟨c, fz, g0, g1, g2, hz, hheap, hcell⟩ := fblk_at hr hb
        have h1 : c.size = η k * z ∧ n'.toNat * (c0 :: r).length ≤ c.size := g1
        have h2 : η k ≠ 0 := fun e => by
          obtain ⟨q1, q2⟩ := h1
          rw [e, Nat.zero_mul] at q1
          have : 1 * 1 ≤ n'.toNat * (c0 :: r).length := Nat.mul_le_mul (by omega) (by simp)
          omega
        exact Go.Lib.run_unsafeSliceData_row w ats ty ⟨η b, 0, none⟩ n.toNat (η k) h2
      · cases h
    · cases h
  · cases h

theorem move_lose {w0 η hp w} (h : HR w0 η hp w) {i : Nat} {b0 : SBk} {o : Obj} (hi : hget hp i = some b0) :
    HR w0 η (hput hp i none) (w.putObj (η i) o) ∧ PO η hp w η (hput hp i none) (w.putObj (η i) o) := by
  have hlt := hget_some_lt hi
  have hg : ∀ j b', hget (hput hp i none) j = some b' → j ≠ i ∧ hget hp j = some b' := by
    intro j b' hb'
    rw [hget_hput hlt] at hb'
    split at hb'
    · cases hb'
    · exact ⟨‹_›, hb'⟩
  have po : PO η hp w η (hput hp i none) (w.putObj (η i) o) := by
    refine ⟨fun _ _ => rfl, by simp, fun j b' hb' hj => ⟨_, (hg j b' hb').2⟩, fun j b' hb' hj => ?_, rfl, rfl, rfl, by simp, fun r hr hn => ?_⟩
    · have := hget_some_lt hb'; simp at this; omega
    · exact World.putObj_heap_other (fun e => hn i b0 hi e.symm)
  refine ⟨⟨h.base_of po, h.hi_of po, fun j b' hb' => ?_, fun j k bj bk hbj hbk e => h.inj j k _ _ (hg j bj hbj).2 (hg k bk hbk).2 e⟩, po⟩
  obtain ⟨hne, h1⟩ := hg j b' hb'
  obtain ⟨o', ho', hr⟩ := h.cell j b' h1
  refine ⟨o', ?_, hr⟩
  rw [World.putObj_heap_other (fun e => hne (h.inj j i _ _ h1 hi e))]; exact ho'

theorem freeze_put {w : World} {r n : Nat} {c : Array Value} {ty : TypeId} {fz : Nat × Nat} (h : w.heap[r]? = some (.cells c ty fz)) :
    ∃ fz', w.freeze ⟨r, 0, none⟩ (n + 1) = w.putObj r (.cells c ty fz') := by
  refine ⟨if fz.1 == fz.2 then (0, 0 + (n + 1)) else (min fz.1 0, max fz.2 (0 + (n + 1))), ?_⟩
  unfold World.freeze World.putObj
  rw [if_neg (by omega)]
  congr 1
  apply Array.ext_getElem?
  intro i
  rw [Array.getElem?_modify, Array.getElem?_setIfInBounds]
  by_cases e : r = i
  · subst e
    have hlt := (Array.getElem?_eq_some_iff.1 h).1
    have e0 : w.heap[r] = .cells c ty fz := by
      have := (Array.getElem?_eq_some_iff.1 h).2
      exact this
    obtain ⟨lo, hi⟩ := fz
    simp [hlt, e0]
  · simp [e]

theorem run_loadBytes_int {P : Program} (w : World) : ∀ (l : List Int) (a : Addr) (acc : ByteArray), (∀ j x, l[j]? = some x → w.cell? (a.add j) = some (.int .u8 x)) →
    (loadBytes a acc l.length).run P w = .ok (l.foldl (fun (r : ByteArray) (n : Int) => r.push (UInt8.ofNat n.toNat)) acc) w
  | [], a, acc, _ => by simp [loadBytes]
  | x :: l, a, acc, h => by
    have h0 : w.cell? a = some (.int .u8 x) := by
      have := h 0 x rfl
      simpa [Addr.add] using this
    have ih := run_loadBytes_int (P := P) w l (a.add 1) (acc.push (UInt8.ofNat x.toNat)) (fun j y hy => by
      have := h (j + 1) y (by simpa using hy)
      rw [addr_add_add, Nat.add_comm 1 j]; exact this)
    simp only [List.length_cons, loadBytes, Sem.run_bind, run_load, h0, Result.andThen, List.foldl_cons]
    exact ih

theorem run_unsafeString_int {P : Program} (w : World) (pt it ty e : TypeId) (hp : P.underlying pt = some (.pointer e)) (hc : P.cellsOf e = 1) (g cells : Nat) (hsh : w.shape? g = some (e, cells)) (l : List Int) (h0 : l.length ≠ 0) (hn : l.length ≤ cells) (h63 : l.length ≤ 9223372036854775807)
    (hcell : ∀ j x, l[j]? = some x → w.cell? ((⟨g, 0, none⟩ : Addr).add j) = some (.int .u8 x)) :
    (Builtin.unsafeString_ #[pt, it] ty #[.pointer (some ⟨g, 0, none⟩), .int .i64 l.length]).run P w = .ok (.string (mkBytes l)) (w.freeze ⟨g, 0, none⟩ l.length) := by
  have hlb := run_loadBytes_int (P := P) w l ⟨g, 0, none⟩ .empty hcell
  rw [mkBytes_fold] at hlb
  have hlies := Go.Lib.liesAt_bytes (P := P) hc (cells / P.cellsOf e) l.length (by rw [hc]; simpa using hn)
  have h63' : ¬ (9223372036854775807 : Int) < (l.length : Int) := by omega
  have hdef : Builtin.unsafeString_ #[pt, it] ty #[.pointer (some ⟨g, 0, none⟩), .int .i64 l.length] =
      (do
        let n ← asInt (.int .i64 l.length)
        if n < 0 then runtimePanic (.error "unsafe.String: len out of range")
        if n > IntKind.i64.max then unsupported (.unsafePointer "String: a length above the largest int")
        if n = 0 then pure (.string .empty)
        else if ← variablesAt ⟨g, 0, none⟩ (← elemOf pt) n.toNat then do
          let s ← loadBytes ⟨g, 0, none⟩ .empty n.toNat
          freeze ⟨g, 0, none⟩ n.toNat
          pure (.string s)
        else unsupported (.unsafePointer "String: not so many bytes at ptr")) := rfl
  rw [hdef]
  have hmax : IntKind.i64.max = 9223372036854775807 := rfl
  have hneg : ¬ (l.length : Int) < 0 := by omega
  simp [asInt, asIntOf, hmax, h63', hneg, h0, variablesAt, hsh, elemOf, run_underlying hp, hlies, hlb]

theorem sUnStr_sound {P : Program} {hp : Hp} {ats : Array TypeId} {p n : SV} {K : SV → Hp → Prop} (h : sUnStr P hp ats.toList p n K) (ty : TypeId) :
    ∃ v hp', K v hp' ∧ ∀ w0, EffRun P w0 hp v hp' fun η => Builtin.unsafeString_ ats ty #[p.den η, n.den η] := by
  unfold sUnStr at h
  split at h
  · rename_i pt it b m hats
    split at h
    · rename_i e cs bty tl hpt hb
      split at h
      · rename_i ns h1 h2 h3 h4 hns
        have h1 := Nat.eq_of_beq_eq_true h1
        have h2 := Nat.eq_of_beq_eq_true h2
        have h3 := Nat.le_of_ble_eq_true h3
        have h4 := Nat.le_of_ble_eq_true h4
        subst h1
        have hats' : ats = #[pt, it] := by cases ats; simp_all
        subst hats'
        have hk : ∃ v, K v (hput hp b none) ∧ ∀ η, v.den η = .string (mkBytes ns) := by
          split at h
          · exact ⟨_, h, fun η => rfl⟩
          · exact ⟨_, h _ rfl, fun η => rfl⟩
        obtain ⟨v, hv, hve⟩ := hk
        refine ⟨v, _, hv, fun w0 η w hr => ?_⟩
        obtain ⟨c, fz, hc, _, hheap, hcell⟩ := cell_at hr hb
        have hd := bytesOfCells_den (η := η) hns
        have hl : ns.length = m + 1 := by
          have := congrArg List.length hd
          simp at this; omega
        have hle : cs.length ≤ c.size := (ST.ok_le hc.1)
        obtain ⟨fz', hf⟩ := freeze_put (n := m) hheap
        obtain ⟨r1, r2⟩ := move_lose hr (o := .cells c e fz') hb
        refine ⟨η, _, ?_, r1, r2⟩
        have run := run_unsafeString_int (P := P) w pt it ty e hpt h2 (η b) c.size (by simp [World.shape?, hheap]) ns (by omega) (by omega) (by omega) (fun j x hj => by
          rw [add_ptr, hcell, Nat.zero_add]
          have hjl : j < m + 1 := by have := (List.getElem?_eq_some_iff.1 hj).1; omega
          have e1 : (SV.dens η (cs.take (m + 1)))[j]? = some (.int .u8 x) := by rw [hd]; simp [hj]
          rw [dens_get, List.getElem?_take_of_lt hjl] at e1
          obtain ⟨u, hu, e2⟩ := Option.map_eq_some_iff.1 e1
          rcases hc.2 j u hu with e3 | e3
          · rw [e3] at e2; cases e2
          · rw [e3, e2])
        rw [hl, hf] at run
        rw [hve]
        exact run
      · cases h
    · cases h
  · rename_i pt it b n hats
    split at h
    · rename_i e n' f bty tl hpt hb
      split at h
      · rename_i h1 h2
        have h1 := Nat.eq_of_beq_eq_true h1
        have h2 := Nat.eq_of_beq_eq_true h2
        subst h1
        have hats' : ats = #[pt, it] := by cases ats; simp_all
        subst hats'
        obtain ⟨⟨n0, n1, n2⟩, h⟩ := h
        obtain ⟨m, rfl⟩ : ∃ m : Nat, n = ((m + 1 : Nat) : Int) := ⟨n.toNat - 1, by omega⟩
        refine ⟨_, _, h _ rfl, fun w0 η w hr => ?_⟩
        obtain ⟨c, fz, g0, g1, g2, hz, hheap, hcell⟩ := fblk_at hr hb
        have hsz : n'.toNat * 1 ≤ c.size := ST.ok_le g1
        obtain ⟨fz', hf⟩ := freeze_put (n := m) hheap
        obtain ⟨r1, r2⟩ := move_lose hr (o := .cells c e fz') hb
        refine ⟨η, _, ?_, r1, r2⟩
        have hl : ((List.range (m + 1)).map fun (i : Nat) => f (i : Int)).length = m + 1 := by simp
        have run := run_unsafeString_int (P := P) w pt it ty e hpt h2 (η b) c.size (by simp [World.shape?, hheap]) ((List.range (m + 1)).map fun (i : Nat) => f (i : Int)) (by omega) (by omega) (by omega) (fun j x hj => by
          rw [add_ptr, hcell, Nat.zero_add]
          obtain ⟨hjl, hje⟩ := List.getElem?_eq_some_iff.1 hj
          simp at hjl hje
          subst hje
          exact g2.row1 (by omega))
        rw [hl, hf] at run
        simp only [SV.den, SI.val, SS.val]
        rw [run]
        simp [mkBytes, fbytes]
      · cases h
    · cases h
  · cases h

end Go.Sx
