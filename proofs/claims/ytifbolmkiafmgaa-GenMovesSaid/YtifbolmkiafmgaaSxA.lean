import Derived.RangeFuncRecord
import Derived.OrdersIn
import Derived.LoopNIn
import Derived.Below
import Derived.KernelRfl
namespace Go.Sx
open Go.RowKit (Below)

inductive SI where | lit (n : Int) | sym (n : Int)
inductive SB where | lit (b : Bool) | sym (b : Bool)
inductive SS where | lit (s : ByteArray) | sym (s : ByteArray)
inductive SN where | lit (n : Nat) | ltr (k : Nat) | num (n : Int)
inductive FC where
  | int (k : IntKind) (f : Int → Int)
  | bool (f : Int → Bool)
  | str (f : Int → ByteArray)
def FC.val : FC → Int → Value
  | .int k f, i => .int k (f i)
  | .bool f, i => .bool (f i)
  | .str f, i => .string (f i)
def fnth : List FC → Nat → Option FC
  | [], _ => none
  | c :: _, 0 => some c
  | _ :: r, i + 1 => fnth r i
theorem fnth_eq : ∀ (l : List FC) (i : Nat), fnth l i = l[i]?
  | [], _ => by simp [fnth]
  | c :: r, 0 => by simp [fnth]
  | c :: r, i + 1 => by simp [fnth, fnth_eq r i]
inductive ST where | full | ltr (k z : Nat)
def SI.val : SI → Int | .lit n => n | .sym n => n
def SB.val : SB → Bool | .lit n => n | .sym n => n
def SS.val : SS → ByteArray | .lit n => n | .sym n => n
def SN.den (η : Nat → Nat) : SN → Nat | .lit n => n | .ltr k => η k | .num n => n.toNat
def SN.all (p : Nat → Bool) : SN → Bool | .lit _ => true | .ltr k => p k | .num _ => true
def ST.ok (η : Nat → Nat) (len size : Nat) : ST → Prop | .full => size = len | .ltr k z => size = η k * z ∧ len ≤ size
def ST.all (p : Nat → Bool) : ST → Bool | .full => true | .ltr k _ => p k
theorem ST.ok_le {η : Nat → Nat} {len size : Nat} {t : ST} (h : t.ok η len size) : len ≤ size := by cases t <;> simp only [ST.ok] at h <;> omega
theorem ST.ok_congr {p : Nat → Bool} {η η' : Nat → Nat} (h : ∀ i, p i = true → η' i = η i) {len size : Nat} {t : ST} (ht : t.all p = true) (hk : t.ok η len size) : t.ok η' len size := by
  cases t with
  | full => exact hk
  | ltr k z => simp only [ST.ok] at hk ⊢; rw [h k ht]; exact hk
theorem SN.den_congr {p : Nat → Bool} {η η' : Nat → Nat} (h : ∀ i, p i = true → η' i = η i) {c : SN} (hc : c.all p = true) : c.den η' = c.den η := by
  cases c with
  | lit n => rfl
  | ltr k => exact h k hc
  | num n => rfl

@[simp] theorem SI.val_lit (n : Int) : (SI.lit n).val = n := rfl
@[simp] theorem SI.val_sym (n : Int) : (SI.sym n).val = n := rfl
@[simp] theorem SB.val_lit (n : Bool) : (SB.lit n).val = n := rfl
@[simp] theorem SB.val_sym (n : Bool) : (SB.sym n).val = n := rfl
@[simp] theorem SS.val_lit (n : ByteArray) : (SS.lit n).val = n := rfl
@[simp] theorem SS.val_sym (n : ByteArray) : (SS.sym n).val = n := rfl
@[simp] theorem SN.den_lit (η : Nat → Nat) (n : Nat) : (SN.lit n).den η = n := rfl
@[simp] theorem SN.den_num (η : Nat → Nat) (n : Int) : (SN.num n).den η = n.toNat := rfl
@[simp] theorem SN.den_ltr (η : Nat → Nat) (k : Nat) : (SN.ltr k).den η = η k := rfl

inductive SV where
  | any
  | bool (b : SB)
  | int (k : IntKind) (n : SI)
  | str (s : SS)
  | ptr (b o : Nat)
  | slice (b o len : Nat) (cap : SN)
  | fn (f : FuncId) (cs : List SV)
  | mth (f : FuncId) (fs : List SV)
  | yld (b : Nat)
  | agg (cs : List SV)
  | tup (cs : List SV)
  | val (v : Value)
  | fsl (b : Nat) (n : Int) (cap : SN)
  | fptr (b : Nat) (i : Int) (z o : Nat)
  | bsl (a : Addr) (n : Int) (c : Nat) (fs : List FC)
  | bptr (a : Addr) (i : Int) (o : Nat) (fs : List FC)
  | osl (b : Nat) (o : Int) (z : Nat) (n c : Int)

mutual
def SV.den (η : Nat → Nat) : SV → Value
  | .any => undef
  | .bool b => .bool b.val
  | .int k n => .int k n.val
  | .str s => .string s.val
  | .ptr b o => .pointer (some ⟨η b, o, none⟩)
  | .slice b o l c => .slice (some ⟨η b, o, none⟩) l (c.den η)
  | .fn f cs => .func (.func f) #[] (SV.dens η cs).toArray
  | .mth f fs => .func (.func f) (SV.dens η fs).toArray #[]
  | .yld b => .func (.yield (η b)) #[] #[]
  | .agg cs => .agg (SV.dens η cs).toArray
  | .tup cs => .tuple (SV.dens η cs).toArray
  | .val v => v
  | .fsl b n c => .slice (some ⟨η b, 0, none⟩) n.toNat (c.den η)
  | .fptr b i z o => .pointer (some ⟨η b, i.toNat * z + o, none⟩)
  | .bsl a n c _ => .slice (some a) n.toNat c
  | .bptr a i o fs => .pointer (some (a.add (i.toNat * fs.length + o)))
  | .osl b o z n c => .slice (some ⟨η b, o.toNat * z, none⟩) n.toNat c.toNat
def SV.dens (η : Nat → Nat) : List SV → List Value
  | [] => []
  | c :: r => c.den η :: SV.dens η r
end

mutual
def SV.allv (p : Nat → Bool) : SV → Bool
  | .ptr b _ => p b
  | .slice b _ _ c => match p b with | true => c.all p | false => false
  | .fn _ cs => SV.allvs p cs
  | .mth _ cs => SV.allvs p cs
  | .yld b => p b
  | .agg cs => SV.allvs p cs
  | .tup cs => SV.allvs p cs
  | .fsl b _ c => match p b with | true => c.all p | false => false
  | .fptr b _ _ _ => p b
  | .osl b _ _ _ _ => p b
  | _ => true
def SV.allvs (p : Nat → Bool) : List SV → Bool
  | [] => true
  | c :: r => match c.allv p with | true => SV.allvs p r | false => false
end

theorem dens_map (η : Nat → Nat) : ∀ l, SV.dens η l = l.map (SV.den η)
  | [] => rfl
  | c :: r => by simp only [SV.dens, List.map_cons, dens_map η r]

@[simp] theorem dens_length (η : Nat → Nat) (l : List SV) : (SV.dens η l).length = l.length := by rw [dens_map]; simp
theorem dens_get (η : Nat → Nat) (l : List SV) (i : Nat) : (SV.dens η l)[i]? = (l[i]?).map (SV.den η) := by rw [dens_map]; simp
theorem dens_append (η : Nat → Nat) (l m : List SV) : SV.dens η (l ++ m) = SV.dens η l ++ SV.dens η m := by simp [dens_map]

theorem allvs_cons {p : Nat → Bool} {c : SV} {r : List SV} : SV.allvs p (c :: r) = true ↔ c.allv p = true ∧ SV.allvs p r = true := by
  simp only [SV.allvs]
  cases c.allv p <;> simp

theorem allvs_iff {p : Nat → Bool} : ∀ {l : List SV}, SV.allvs p l = true ↔ ∀ c ∈ l, c.allv p = true
  | [] => by simp [SV.allvs]
  | c :: r => by rw [allvs_cons, allvs_iff (l := r)]; simp

mutual
theorem den_congr {p : Nat → Bool} {η η' : Nat → Nat} (h : ∀ i, p i = true → η' i = η i) : ∀ v : SV, v.allv p = true → v.den η' = v.den η
  | .any, _ => rfl
  | .bool _, _ => rfl
  | .int _ _, _ => rfl
  | .str _, _ => rfl
  | .ptr b o, hv => by simp only [SV.allv] at hv; simp only [SV.den, h b hv]
  | .slice b o l c, hv => by
    simp only [SV.allv] at hv
    split at hv
    · rename_i hb; simp only [SV.den, h b hb, SN.den_congr h hv]
    · cases hv
  | .fn f cs, hv => by simp only [SV.allv] at hv; simp only [SV.den, dens_congr h cs hv]
  | .mth f cs, hv => by simp only [SV.allv] at hv; simp only [SV.den, dens_congr h cs hv]
  | .yld b, hv => by simp only [SV.allv] at hv; simp only [SV.den, h b hv]
  | .agg cs, hv => by simp only [SV.allv] at hv; simp only [SV.den, dens_congr h cs hv]
  | .tup cs, hv => by simp only [SV.allv] at hv; simp only [SV.den, dens_congr h cs hv]
  | .val _, _ => rfl
  | .fsl b n c, hv => by
    simp only [SV.allv] at hv
    split at hv
    · rename_i hb; simp only [SV.den, h b hb, SN.den_congr h hv]
    · cases hv
  | .fptr b i z o, hv => by simp only [SV.allv] at hv; simp only [SV.den, h b hv]
  | .bsl _ _ _ _, _ => rfl
  | .bptr _ _ _ _, _ => rfl
  | .osl b o z n c, hv => by simp only [SV.allv] at hv; simp only [SV.den, h b hv]
theorem dens_congr {p : Nat → Bool} {η η' : Nat → Nat} (h : ∀ i, p i = true → η' i = η i) : ∀ l : List SV, SV.allvs p l = true → SV.dens η' l = SV.dens η l
  | [], _ => rfl
  | c :: r, hv => by
    rw [allvs_cons] at hv
    simp only [SV.dens, den_congr h c hv.1, dens_congr h r hv.2]
end

def SV.isAny : SV → Bool | .any => true | _ => false
def SV.scalar : SV → Bool
  | .any => false
  | .agg _ => false
  | .tup _ => false
  | .val v => match v with | .agg _ => false | .tuple _ => false | _ => true
  | _ => true

def nth : List SV → Nat → SV
  | [], _ => .any
  | c :: _, 0 => c
  | _ :: r, i + 1 => nth r i
def put : List SV → Nat → SV → List SV
  | [], _, _ => []
  | _ :: r, 0, v => v :: r
  | c :: r, i + 1, v => c :: put r i v

theorem nth_eq : ∀ (l : List SV) (i : Nat), nth l i = (l[i]?).getD .any
  | [], _ => by simp [nth]
  | c :: r, 0 => by simp [nth]
  | c :: r, i + 1 => by simp [nth, nth_eq r i]
theorem put_eq : ∀ (l : List SV) (i : Nat) (v : SV), put l i v = l.set i v
  | [], _, _ => by simp [put]
  | c :: r, 0, v => by simp [put]
  | c :: r, i + 1, v => by simp [put, put_eq r i v]
@[simp] theorem put_length (l : List SV) (i : Nat) (v : SV) : (put l i v).length = l.length := by simp [put_eq]

def LRel (η : Nat → Nat) (l : List SV) (a : Array Value) : Prop :=
  a.size = l.length ∧ ∀ (i : Nat) (v : SV), l[i]? = some v → v = SV.any ∨ a[i]? = some (v.den η)

theorem LRel.nth {η : Nat → Nat} {l : List SV} {a : Array Value} (h : LRel η l a) {i : Nat} {v : SV} (hv : nth l i = v) (hn : v ≠ .any) : a[i]? = some (v.den η) := by
  rw [nth_eq] at hv
  cases hl : l[i]? with
  | none => rw [hl] at hv; simp at hv; exact absurd hv.symm hn
  | some u =>
    rw [hl] at hv; simp at hv; subst hv
    exact (h.2 i _ hl).resolve_left hn

theorem LRel.put {η : Nat → Nat} {l : List SV} {a : Array Value} (h : LRel η l a) (i : Nat) {v : SV} {x : Value} (hx : v = .any ∨ x = v.den η) : LRel η (put l i v) (a.setIfInBounds i x) := by
  refine ⟨by simp [h.1], fun j u hu => ?_⟩
  rw [put_eq, List.getElem?_set] at hu
  rw [Array.getElem?_setIfInBounds]
  by_cases hij : i = j
  · subst hij
    rw [if_pos rfl] at hu
    split at hu
    · rename_i hlt
      injection hu with hu; subst hu
      rcases hx with rfl | rfl
      · exact .inl rfl
      · right; simp [h.1, hlt]
    · cases hu
  · rw [if_neg hij] at hu
    rw [if_neg hij]
    exact h.2 j u hu

theorem LRel.congr {η η' : Nat → Nat} {l : List SV} {a : Array Value} {p : Nat → Bool} (h : LRel η l a) (hp : ∀ i, p i = true → η' i = η i) (hl : SV.allvs p l = true) : LRel η' l a :=
  ⟨h.1, fun i v hv => (h.2 i v hv).imp id (fun e => by rw [e, den_congr hp v (allvs_iff.1 hl v (List.mem_of_getElem? hv))])⟩

theorem LRel.of_dens {η : Nat → Nat} {l : List SV} : LRel η l (SV.dens η l).toArray :=
  ⟨by simp, fun i v hv => .inr (by simp [dens_get, hv])⟩

theorem LRel.append {η : Nat → Nat} {l m : List SV} {a b : Array Value} (h : LRel η l a) (k : LRel η m b) : LRel η (l ++ m) (a ++ b) := by
  refine ⟨by simp [h.1, k.1], fun i v hv => ?_⟩
  by_cases hi : i < l.length
  · rw [List.getElem?_append_left hi] at hv
    rw [Array.getElem?_append_left (by rw [h.1]; exact hi)]
    exact h.2 i v hv
  · rw [List.getElem?_append_right (by omega)] at hv
    rw [Array.getElem?_append_right (by rw [h.1]; omega), h.1]
    exact k.2 _ v hv

def LRelT (η : Nat → Nat) (l : List SV) (n : ST) (a : Array Value) : Prop :=
  n.ok η l.length a.size ∧ ∀ (i : Nat) (v : SV), l[i]? = some v → v = SV.any ∨ a[i]? = some (v.den η)
theorem LRel.toT {η : Nat → Nat} {l : List SV} {a : Array Value} (h : LRel η l a) : LRelT η l .full a := ⟨h.1, h.2⟩
theorem LRelT.nth {η : Nat → Nat} {l : List SV} {n : ST} {a : Array Value} (h : LRelT η l n a) {i : Nat} {v : SV} (hv : Sx.nth l i = v) (hn : v ≠ .any) : a[i]? = some (v.den η) := by
  rw [nth_eq] at hv
  cases hl : l[i]? with
  | none => rw [hl] at hv; simp at hv; exact absurd hv.symm hn
  | some u =>
    rw [hl] at hv; simp at hv; subst hv
    exact (h.2 i _ hl).resolve_left hn
theorem LRelT.put {η : Nat → Nat} {l : List SV} {n : ST} {a : Array Value} (h : LRelT η l n a) (i : Nat) {v : SV} {x : Value} (hx : v = .any ∨ x = v.den η) : LRelT η (Sx.put l i v) n (a.setIfInBounds i x) := by
  refine ⟨by simpa using h.1, fun j u hu => ?_⟩
  rw [put_eq, List.getElem?_set] at hu
  rw [Array.getElem?_setIfInBounds]
  by_cases hij : i = j
  · subst hij
    rw [if_pos rfl] at hu
    split at hu
    · rename_i hlt
      injection hu with hu; subst hu
      rcases hx with rfl | rfl
      · exact .inl rfl
      · right; have := ST.ok_le h.1; simp; omega
    · cases hu
  · rw [if_neg hij] at hu
    rw [if_neg hij]
    exact h.2 j u hu
theorem LRelT.congr {η η' : Nat → Nat} {l : List SV} {n : ST} {a : Array Value} {p : Nat → Bool} (h : LRelT η l n a) (hp : ∀ i, p i = true → η' i = η i) (hl : SV.allvs p l = true) (hn : n.all p = true) : LRelT η' l n a :=
  ⟨ST.ok_congr hp hn h.1, fun i v hv => (h.2 i v hv).imp id (fun e => by rw [e, den_congr hp v (allvs_iff.1 hl v (List.mem_of_getElem? hv))])⟩

def FzOk (n : Nat) (fz : Nat × Nat) : Prop := ∀ o, o < n → ¬ (fz.1 ≤ o ∧ o < fz.2)
theorem FzOk.zero {n : Nat} : FzOk n (0, 0) := fun o _ h => by have := h.2; simp at this
theorem FzOk.size {n m : Nat} {fz : Nat × Nat} (h : FzOk n fz) (e : m = n) : FzOk m fz := e ▸ h

inductive SBk where
  | cells (cs : List SV) (ty : TypeId) (tl : ST)
  | loop (st : LoopState) (pe : Option Code) (ts : List SV) (ps : Array Tmp) (asg body : Code) (db : Nat)
  | dfr
  | fblk (n : Int) (fs : List FC) (ty : TypeId) (tl : ST)

def FRel (n : Int) (fs : List FC) (c : Array Value) : Prop := ∀ (i j : Nat) (fc : FC), i < n.toNat → fs[j]? = some fc → c[i * fs.length + j]? = some (fc.val i)
def SBk.Rel (η : Nat → Nat) : SBk → Obj → Prop
  | .cells cs ty tl, o => ∃ c fz, LRelT η cs tl c ∧ FzOk c.size fz ∧ o = .cells c ty fz
  | .loop st pe ts ps asg body db, o => ∃ fn tmps, LRel η ts tmps ∧ o = .loop { state := st, pending := pe, fn, tmps, params := ps, assign := asg, body, defers := η db }
  | .dfr, o => o = .deferred (some [])
  | .fblk n fs ty tl, o => ∃ c fz, (0 ≤ n ∧ tl.ok η (n.toNat * fs.length) c.size ∧ FRel n fs c) ∧ FzOk c.size fz ∧ o = .cells c ty fz

def SBk.allb (p : Nat → Bool) : SBk → Bool
  | .cells cs _ tl => match tl.all p with | true => SV.allvs p cs | false => false
  | .loop _ _ ts _ _ _ db => match p db with | true => SV.allvs p ts | false => false
  | .dfr => true
  | .fblk _ _ _ tl => tl.all p

theorem SBk.Rel.congr {η η' : Nat → Nat} {p : Nat → Bool} {b : SBk} {o : Obj} (h : b.Rel η o) (hp : ∀ i, p i = true → η' i = η i) (hb : b.allb p = true) : b.Rel η' o := by
  cases b with
  | cells cs ty tl =>
    obtain ⟨c, fz, hc, hz, rfl⟩ := h
    simp only [SBk.allb] at hb
    split at hb
    · rename_i ht; exact ⟨c, fz, hc.congr hp hb ht, hz, rfl⟩
    · cases hb
  | loop st pe ts ps asg body db =>
    obtain ⟨fn, tmps, ht, rfl⟩ := h
    simp only [SBk.allb] at hb
    split at hb
    · rename_i hd; exact ⟨fn, tmps, ht.congr hp hb, by rw [hp _ hd]⟩
    · cases hb
  | dfr => exact h
  | fblk n fs ty tl =>
    obtain ⟨c, fz, ⟨h0, h1, h2⟩, hz, rfl⟩ := h
    exact ⟨c, fz, ⟨h0, ST.ok_congr hp hb h1, h2⟩, hz, rfl⟩

abbrev Hp := List (Option SBk)
def hget : Hp → Nat → Option SBk
  | [], _ => none
  | c :: _, 0 => c
  | _ :: r, i + 1 => hget r i
def hput : Hp → Nat → Option SBk → Hp
  | [], _, _ => []
  | _ :: r, 0, v => v :: r
  | c :: r, i + 1, v => c :: hput r i v

theorem hget_eq : ∀ (l : Hp) (i : Nat), hget l i = (l[i]?).join
  | [], _ => by simp [hget]
  | c :: r, 0 => by simp [hget]
  | c :: r, i + 1 => by simp [hget, hget_eq r i]
theorem hput_eq : ∀ (l : Hp) (i : Nat) (v : Option SBk), hput l i v = l.set i v
  | [], _, _ => by simp [hput]
  | c :: r, 0, v => by simp [hput]
  | c :: r, i + 1, v => by simp [hput, hput_eq r i v]
@[simp] theorem hput_length (l : Hp) (i : Nat) (v : Option SBk) : (hput l i v).length = l.length := by simp [hput_eq]
theorem hget_some_lt {l : Hp} {i : Nat} {b : SBk} (h : hget l i = some b) : i < l.length := by
  rw [hget_eq] at h
  rcases Nat.lt_or_ge i l.length with h' | h'
  · exact h'
  · simp [List.getElem?_eq_none h'] at h
theorem hget_hput {l : Hp} {i j : Nat} {v : Option SBk} (h : i < l.length) : hget (hput l i v) j = if j = i then v else hget l j := by
  rw [hget_eq, hget_eq, hput_eq, List.getElem?_set]
  by_cases e : i = j
  · subst e; simp [h]
  · rw [if_neg e, if_neg (Ne.symm e)]
theorem hget_append {l m : Hp} {i : Nat} : hget (l ++ m) i = if i < l.length then hget l i else hget m (i - l.length) := by
  rw [hget_eq, hget_eq, hget_eq]
  split
  · rename_i h; rw [List.getElem?_append_left h]
  · rename_i h; rw [List.getElem?_append_right (by omega)]

structure HRel (w0 : World) (η : Nat → Nat) (f : Nat → Option SBk) (w : World) : Prop where
  base : Below w0.heap.size w0 w
  hi : ∀ i b, f i = some b → w0.heap.size ≤ η i
  cell : ∀ i b, f i = some b → ∃ o, w.heap[η i]? = some o ∧ b.Rel η o
  inj : ∀ i j bi bj, f i = some bi → f j = some bj → η i = η j → i = j

structure Post (η : Nat → Nat) (f : Nat → Option SBk) (n : Nat) (w : World) (η' : Nat → Nat) (f' : Nat → Option SBk) (n' : Nat) (w' : World) : Prop where
  ext : ∀ i, i < n → η' i = η i
  len : n ≤ n'
  dom : ∀ i b', f' i = some b' → i < n → ∃ b, f i = some b
  fresh : ∀ i b', f' i = some b' → n ≤ i → w.heap.size ≤ η' i ∨ ∃ j b, f j = some b ∧ j < n ∧ η' i = η j
  os : w'.os = w.os
  tape : w'.tape = w.tape
  output : w'.output = w.output
  grow : w.heap.size ≤ w'.heap.size
  oth : ∀ r, r < w.heap.size → (∀ i b, f i = some b → η i ≠ r) → w'.heap[r]? = w.heap[r]?

theorem Post.refl (η : Nat → Nat) (f : Nat → Option SBk) (n : Nat) (w : World) (hf : ∀ i b, f i = some b → i < n) : Post η f n w η f n w :=
  ⟨fun _ _ => rfl, Nat.le_refl _, fun _ b h _ => ⟨b, h⟩, fun i b h hn => absurd (hf i b h) (by omega), rfl, rfl, rfl, Nat.le_refl _, fun _ _ _ => rfl⟩

theorem Post.trans {η f n w η1 f1 n1 w1 η2 f2 n2 w2} (h : Post η f n w η1 f1 n1 w1) (k : Post η1 f1 n1 w1 η2 f2 n2 w2) : Post η f n w η2 f2 n2 w2 where
  ext i hi := (k.ext i (Nat.lt_of_lt_of_le hi h.len)).trans (h.ext i hi)
  len := Nat.le_trans h.len k.len
  dom i b hb hi := let ⟨b1, h1⟩ := k.dom i b hb (Nat.lt_of_lt_of_le hi h.len); h.dom i b1 h1 hi
  fresh i b hb hi := by
    by_cases h1 : i < n1
    · obtain ⟨b1, hb1⟩ := k.dom i b hb h1
      rw [k.ext i h1]; exact h.fresh i b1 hb1 hi
    · rcases k.fresh i b hb (by omega) with h2 | ⟨j, bj, hj, hjn, e⟩
      · exact .inl (Nat.le_trans h.grow h2)
      · by_cases hjn0 : j < n
        · obtain ⟨b0, hb0⟩ := h.dom j bj hj hjn0
          exact .inr ⟨j, b0, hb0, hjn0, by rw [e, h.ext j hjn0]⟩
        · rw [e]; exact h.fresh j bj hj (by omega)
  os := k.os.trans h.os
  tape := k.tape.trans h.tape
  output := k.output.trans h.output
  grow := Nat.le_trans h.grow k.grow
  oth r hr hn := by
    rw [k.oth r (Nat.lt_of_lt_of_le hr h.grow) (fun i b hb => ?_), h.oth r hr hn]
    by_cases hi : i < n
    · obtain ⟨b0, hb0⟩ := h.dom i b hb hi
      rw [h.ext i hi]; exact hn i b0 hb0
    · rcases h.fresh i b hb (by omega) with h2 | ⟨j, bj, hj, hjn, e⟩
      · omega
      · rw [e]; exact hn j bj hj

theorem HRel.base_of {w0 η f n w η' f' n' w'} (h : HRel w0 η f w) (p : Post η f n w η' f' n' w') : Below w0.heap.size w0 w' :=
  h.base.trans ⟨p.os, p.tape, p.output, p.grow, fun k hk => p.oth k (Nat.lt_of_lt_of_le hk h.base.size) (fun i b hb => by have := h.hi i b hb; omega)⟩
theorem HRel.hi_of {w0 η f n w η' f' n' w'} (h : HRel w0 η f w) (p : Post η f n w η' f' n' w') : ∀ i b, f' i = some b → w0.heap.size ≤ η' i := fun i b hb => by
  by_cases hi : i < n
  · obtain ⟨b0, hb0⟩ := p.dom i b hb hi
    rw [p.ext i hi]; exact h.hi i b0 hb0
  · rcases p.fresh i b hb (by omega) with h2 | ⟨j, bj, hj, _, e⟩
    · exact Nat.le_trans h.base.size h2
    · rw [e]; exact h.hi j bj hj

abbrev HR (w0 : World) (η : Nat → Nat) (hp : Hp) (w : World) : Prop := HRel w0 η (hget hp) w
abbrev PO (η : Nat → Nat) (hp : Hp) (w : World) (η' : Nat → Nat) (hp' : Hp) (w' : World) : Prop := Post η (hget hp) hp.length w η' (hget hp') hp'.length w'
theorem PO.refl (η : Nat → Nat) (hp : Hp) (w : World) : PO η hp w η hp w := Post.refl _ _ _ _ (fun _ _ h => hget_some_lt h)

theorem HRel.lt {w0 η f w} (h : HRel w0 η f w) {i : Nat} {b : SBk} (hb : f i = some b) : η i < w.heap.size := by
  obtain ⟨o, ho, _⟩ := h.cell i b hb
  exact (Array.getElem?_eq_some_iff.1 ho).1

theorem HRel.less {w0 η f g w} (h : HRel w0 η f w) (hg : ∀ i b, g i = some b → f i = some b) : HRel w0 η g w :=
  ⟨h.base, fun i b hb => h.hi i b (hg i b hb), fun i b hb => h.cell i b (hg i b hb), fun i j bi bj hi hj => h.inj i j bi bj (hg _ _ hi) (hg _ _ hj)⟩


def upd (η : Nat → Nat) (n x : Nat) : Nat → Nat := fun i => if i = n then x else η i
theorem upd_same (η : Nat → Nat) (n x : Nat) : upd η n x n = x := by simp [upd]
theorem upd_lt (η : Nat → Nat) {n x i : Nat} (h : i < n) : upd η n x i = η i := by simp [upd]; omega

def okHp (p : Nat → Bool) : Hp → Bool
  | [] => true
  | none :: r => okHp p r
  | some b :: r => match b.allb p with | true => okHp p r | false => false
theorem okHp_get {p : Nat → Bool} : ∀ {hp : Hp} (_ : okHp p hp = true) {i : Nat} {b : SBk}, hget hp i = some b → b.allb p = true
  | [], _, i, b, hb => by simp [hget] at hb
  | none :: r, h, 0, b, hb => by simp [hget] at hb
  | none :: r, h, i + 1, b, hb => okHp_get (hp := r) h (by simpa [hget] using hb)
  | some c :: r, h, 0, b, hb => by
    simp [hget] at hb; subst hb
    simp only [okHp] at h
    split at h
    · assumption
    · cases h
  | some c :: r, h, i + 1, b, hb => by
    simp only [okHp] at h
    split at h
    · exact okHp_get (hp := r) h (by simpa [hget] using hb)
    · cases h

def ltb (n i : Nat) : Bool := Nat.blt i n
theorem ltb_iff {n i : Nat} : ltb n i = true ↔ i < n := by simp [ltb, Nat.blt_eq]

theorem move_alloc {w0 η hp w} (h : HR w0 η hp w) (hok : okHp (ltb hp.length) hp = true) {b : SBk} {o : Obj} (hb : b.Rel (upd η hp.length w.heap.size) o) :
    HR w0 (upd η hp.length w.heap.size) (hp ++ [some b]) (w.alloc o) ∧ PO η hp w (upd η hp.length w.heap.size) (hp ++ [some b]) (w.alloc o) := by
  have hlt : ∀ i, ltb hp.length i = true → upd η hp.length w.heap.size i = η i := fun i hi => upd_lt η (ltb_iff.1 hi)
  have hg : ∀ i b', hget (hp ++ [some b]) i = some b' → (i < hp.length ∧ hget hp i = some b') ∨ (i = hp.length ∧ b' = b) := by
    intro i b' hb'
    rw [hget_append] at hb'
    split at hb'
    · exact .inl ⟨‹_›, hb'⟩
    · have : i < (hp ++ [some b]).length := hget_some_lt (by rw [hget_append, if_neg ‹_›]; exact hb')
      simp at this
      have e : i = hp.length := by omega
      subst e
      simp [hget] at hb'
      exact .inr ⟨rfl, hb'.symm⟩
  have po : PO η hp w (upd η hp.length w.heap.size) (hp ++ [some b]) (w.alloc o) := by
    refine ⟨fun i hi => upd_lt η hi, by simp, fun i b' hb' hi => ?_, fun i b' hb' hi => ?_, rfl, rfl, rfl, by simp, fun r hr _ => Below.heap_alloc w o r hr⟩
    · rcases hg i b' hb' with ⟨_, h1⟩ | ⟨e, _⟩
      · exact ⟨_, h1⟩
      · omega
    · rcases hg i b' hb' with ⟨h1, _⟩ | ⟨e, _⟩
      · omega
      · subst e; exact .inl (by simp [upd])
  refine ⟨⟨h.base_of po, h.hi_of po, fun i b' hb' => ?_, fun i j bi bj hbi hbj e => ?_⟩, po⟩
  · rcases hg i b' hb' with ⟨h1, h2⟩ | ⟨rfl, rfl⟩
    · obtain ⟨o', ho', hr⟩ := h.cell i b' h2
      refine ⟨o', ?_, hr.congr hlt (okHp_get hok h2)⟩
      rw [upd_lt η h1, Below.heap_alloc w o _ (h.lt h2)]; exact ho'
    · exact ⟨o, by rw [upd_same, World.alloc_heap_new], hb⟩
  · rcases hg i bi hbi with ⟨h1, h2⟩ | ⟨rfl, rfl⟩ <;> rcases hg j bj hbj with ⟨h3, h4⟩ | ⟨rfl, rfl⟩
    · rw [upd_lt η h1, upd_lt η h3] at e; exact h.inj i j _ _ h2 h4 e
    · rw [upd_lt η h1, upd_same] at e; have := h.lt h2; omega
    · rw [upd_lt η h3, upd_same] at e; have := h.lt h4; omega
    · rfl

theorem move_put {w0 η hp w} (h : HR w0 η hp w) {i : Nat} {b0 b : SBk} {o : Obj} (hi : hget hp i = some b0) (hb : b.Rel η o) :
    HR w0 η (hput hp i (some b)) (w.putObj (η i) o) ∧ PO η hp w η (hput hp i (some b)) (w.putObj (η i) o) := by
  have hlt := hget_some_lt hi
  have hg : ∀ j b', hget (hput hp i (some b)) j = some b' → (j = i ∧ b' = b) ∨ (j ≠ i ∧ hget hp j = some b') := by
    intro j b' hb'
    rw [hget_hput hlt] at hb'
    split at hb'
    · injection hb' with hb'; exact .inl ⟨‹_›, hb'.symm⟩
    · exact .inr ⟨‹_›, hb'⟩
  have po : PO η hp w η (hput hp i (some b)) (w.putObj (η i) o) := by
    refine ⟨fun _ _ => rfl, by simp, fun j b' hb' hj => ?_, fun j b' hb' hj => ?_, rfl, rfl, rfl, by simp, fun r hr hn => ?_⟩
    · rcases hg j b' hb' with ⟨rfl, _⟩ | ⟨_, h1⟩
      · exact ⟨_, hi⟩
      · exact ⟨_, h1⟩
    · have := hget_some_lt hb'; simp at this; omega
    · exact World.putObj_heap_other (fun e => hn i b0 hi e.symm)
  refine ⟨⟨h.base_of po, h.hi_of po, fun j b' hb' => ?_, fun j k bj bk hbj hbk e => ?_⟩, po⟩
  · rcases hg j b' hb' with ⟨rfl, rfl⟩ | ⟨hne, h1⟩
    · exact ⟨o, World.putObj_heap_same (h.lt hi), hb⟩
    · obtain ⟨o', ho', hr⟩ := h.cell j b' h1
      refine ⟨o', ?_, hr⟩
      rw [World.putObj_heap_other (fun e => hne (h.inj j i _ _ h1 hi e))]; exact ho'
  · have hj : ∃ b, hget hp j = some b := by rcases hg j bj hbj with ⟨rfl, _⟩ | ⟨_, h1⟩ <;> exact ⟨_, by assumption⟩
    have hk : ∃ b, hget hp k = some b := by rcases hg k bk hbk with ⟨rfl, _⟩ | ⟨_, h1⟩ <;> exact ⟨_, by assumption⟩
    obtain ⟨_, hj⟩ := hj; obtain ⟨_, hk⟩ := hk
    exact h.inj j k _ _ hj hk e

theorem move_grow {w0 η hp w w'} (h : HR w0 η hp w) (hb : Below w.heap.size w w') : HR w0 η hp w' ∧ PO η hp w η hp w' := by
  have po : PO η hp w η hp w' := ⟨fun _ _ => rfl, Nat.le_refl _, fun _ b h _ => ⟨b, h⟩, fun i b h hn => absurd (hget_some_lt h) (by omega), hb.os, hb.tape, hb.output, hb.size, fun r hr _ => hb.block r hr⟩
  refine ⟨⟨h.base_of po, h.hi, fun i b hib => ?_, h.inj⟩, po⟩
  obtain ⟨o, ho, hr⟩ := h.cell i b hib
  exact ⟨o, by rw [hb.block _ (h.lt hib)]; exact ho, hr⟩

theorem HRel.drew {w0 η f w} (h : HRel w0 η f w) (d : Nat) : HRel w0 η f { w with drawn := d } :=
  ⟨h.base.trans ⟨rfl, rfl, rfl, Nat.le_refl _, fun _ _ => rfl⟩, h.hi, h.cell, h.inj⟩

theorem move_rename {w0 η hp w} (h : HR w0 η hp w) (hok : okHp (ltb hp.length) hp = true) {i : Nat} {b0 b : SBk} {o : Obj} (hi : hget hp i = some b0) (hb : b.Rel (upd η hp.length (η i)) o) :
    HR w0 (upd η hp.length (η i)) (hput hp i none ++ [some b]) (w.putObj (η i) o) ∧ PO η hp w (upd η hp.length (η i)) (hput hp i none ++ [some b]) (w.putObj (η i) o) := by
  have hlt := hget_some_lt hi
  have hlt' : ∀ j, ltb hp.length j = true → upd η hp.length (η i) j = η j := fun j hj => upd_lt η (ltb_iff.1 hj)
  have hg : ∀ j b', hget (hput hp i none ++ [some b]) j = some b' → (j < hp.length ∧ j ≠ i ∧ hget hp j = some b') ∨ (j = hp.length ∧ b' = b) := by
    intro j b' hb'
    rw [hget_append, hput_length] at hb'
    split at hb'
    · rw [hget_hput hlt] at hb'
      split at hb'
      · cases hb'
      · exact .inl ⟨by assumption, by assumption, hb'⟩
    · have : j < (hput hp i none ++ [some b]).length := hget_some_lt (by rw [hget_append, hput_length, if_neg ‹_›]; exact hb')
      simp at this
      have e : j = hp.length := by omega
      subst e
      simp [hget] at hb'
      exact .inr ⟨rfl, hb'.symm⟩
  have po : PO η hp w (upd η hp.length (η i)) (hput hp i none ++ [some b]) (w.putObj (η i) o) := by
    refine ⟨fun j hj => upd_lt η hj, by simp, fun j b' hb' hj => ?_, fun j b' hb' hj => ?_, rfl, rfl, rfl, by simp, fun r hr hn => ?_⟩
    · rcases hg j b' hb' with ⟨_, _, h1⟩ | ⟨e, _⟩
      · exact ⟨_, h1⟩
      · omega
    · rcases hg j b' hb' with ⟨h1, _⟩ | ⟨e, _⟩
      · omega
      · subst e; exact .inr ⟨i, b0, hi, hlt, by simp [upd]⟩
    · exact World.putObj_heap_other (fun e => hn i b0 hi e.symm)
  refine ⟨⟨h.base_of po, h.hi_of po, fun j b' hb' => ?_, fun j k bj bk hbj hbk e => ?_⟩, po⟩
  · rcases hg j b' hb' with ⟨h1, h2, h3⟩ | ⟨rfl, rfl⟩
    · obtain ⟨o', ho', hr⟩ := h.cell j b' h3
      refine ⟨o', ?_, hr.congr hlt' (okHp_get hok h3)⟩
      rw [upd_lt η h1, World.putObj_heap_other (fun e => h2 (h.inj j i _ _ h3 hi e))]; exact ho'
    · exact ⟨o, by rw [upd_same, World.putObj_heap_same (h.lt hi)], hb⟩
  · rcases hg j bj hbj with ⟨h1, h2, h3⟩ | ⟨rfl, rfl⟩ <;> rcases hg k bk hbk with ⟨h4, h5, h6⟩ | ⟨rfl, rfl⟩
    · rw [upd_lt η h1, upd_lt η h4] at e; exact h.inj j k _ _ h3 h6 e
    · rw [upd_lt η h1, upd_same] at e; exact absurd (h.inj j i _ _ h3 hi e) h2
    · rw [upd_lt η h4, upd_same] at e; exact absurd (h.inj k i _ _ h6 hi e.symm) h5
    · rfl

end Go.Sx
