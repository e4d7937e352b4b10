import Derived.WalkKit
import Derived.ProofKit
import Derived.OpenShut
set_option linter.unusedVariables false
namespace Go.Sx

inductive SK where
  | int (k : IntKind)
  | bool

def FlatIs : List SK → List Value → Prop
  | [], [] => True
  | .int k :: ks, v :: vs => (∃ n, v = .int k n ∧ (Lit.int k n).wf = true) ∧ FlatIs ks vs
  | .bool :: ks, v :: vs => (∃ b, v = .bool b) ∧ FlatIs ks vs
  | _, _ => False

def repK (ks : List SK) : Nat → List SK
  | 0 => []
  | n + 1 => ks ++ repK ks n
def flatFs (P : Program) (g : TypeId → Option (List SK)) : Nat → List Field → Option (List SK)
  | _, [] => some []
  | off, f :: r => match g f.type with
    | some ks => match Nat.beq f.offset off, Nat.beq (P.cellsOf f.type) ks.length, flatFs P g (off + ks.length) r with
      | true, true, some l => some (ks ++ l)
      | _, _, _ => none
    | none => none
def flatK (P : Program) : Nat → TypeId → Option (List SK)
  | 0, _ => none
  | n + 1, t => match P.underlying t with
    | some (.int k) => some [.int k]
    | some .bool => some [.bool]
    | some (.array m e) => (match flatK P n e with
      | some ks => (match Nat.beq (P.cellsOf e) ks.length, Nat.beq (P.cellsOf t) (m * ks.length) with
        | true, true => some (repK ks m)
        | _, _ => none)
      | none => none)
    | some (.struct fs) => (match flatFs P (flatK P n) 0 fs.toList with
      | some ks => (match Nat.beq (P.cellsOf t) ks.length with | true => some ks | false => none)
      | none => none)
    | _ => none

theorem FlatIs.append : ∀ {ks ks' : List SK} {cs : List Value}, FlatIs ks (cs.take ks.length) → FlatIs ks' (cs.drop ks.length) → FlatIs (ks ++ ks') cs
  | [], ks', cs, _, h => by simpa using h
  | k :: ks, ks', [], h, _ => by cases k <;> simp [FlatIs] at h
  | .int k :: ks, ks', c :: cs, h, h' => by
    simp only [List.length_cons, List.take_succ_cons, FlatIs] at h
    exact ⟨h.1, FlatIs.append h.2 (by simpa using h')⟩
  | .bool :: ks, ks', c :: cs, h, h' => by
    simp only [List.length_cons, List.take_succ_cons, FlatIs] at h
    exact ⟨h.1, FlatIs.append h.2 (by simpa using h')⟩

theorem FlatIs.rep {ks : List SK} : ∀ {m : Nat} {cs : List Value}, cs.length = m * ks.length → (∀ i, i < m → FlatIs ks ((cs.drop (i * ks.length)).take ks.length)) → FlatIs (repK ks m) cs
  | 0, cs, hl, h => by
    have : cs = [] := by simpa using hl
    subst this; trivial
  | m + 1, cs, hl, h => by
    refine FlatIs.append (by simpa using h 0 (by omega)) (FlatIs.rep (m := m) ?_ fun i hi => ?_)
    · rw [List.length_drop, hl, Nat.add_mul]; omega
    · have := h (i + 1) (by omega)
      rw [List.drop_drop, show ks.length + i * ks.length = (i + 1) * ks.length by rw [Nat.add_mul]; omega]
      exact this

section
variable {H : Type} {enc : TypeId × Value → H} {P : Program} {w : World} {base : Nat} {spare : Nat → Bool} {held : Bool}

theorem flatFs_is {g : TypeId → Option (List SK)} {cs : List Value} : ∀ {fs : List Field} {off : Nat} {ks : List SK}, flatFs P g off fs = some ks → cs.length = off + ks.length →
    (∀ f ∈ fs, ∀ k, g f.type = some k → FlatIs k ((cs.drop f.offset).take (P.cellsOf f.type))) → FlatIs ks (cs.drop off)
  | [], off, ks, h, hl, hf => by
    simp only [flatFs] at h
    injection h with h; subst h
    have : cs.drop off = [] := by rw [List.drop_eq_nil_iff]; simp at hl; omega
    rw [this]; trivial
  | f :: r, off, ks, h, hl, hf => by
    simp only [flatFs] at h
    split at h
    · rename_i k hk
      split at h
      · rename_i l h1 h2 h3
        injection h with h; subst h
        have h1 := Nat.eq_of_beq_eq_true h1
        have h2 := Nat.eq_of_beq_eq_true h2
        have a := hf f (by simp) k hk
        rw [h1, h2] at a
        refine FlatIs.append a ?_
        rw [List.drop_drop]
        exact flatFs_is h3 (by rw [List.length_append] at hl; omega) fun f' hf' => hf f' (by simp [hf'])
      · cases h
    · cases h

theorem flat_trod : ∀ (n : Nat) {t : TypeId} {ks : List SK}, flatK P n t = some ks → ∀ {fuel : Nat} {cs : List Value} {x : DataW H × List MemPlace}, DataW.trod enc P w base spare held fuel t cs = some x → FlatIs ks cs
  | 0, t, ks, h, fuel, cs, x, ht => by simp [flatK] at h
  | n + 1, t, ks, h, fuel, cs, x, ht => by
    simp only [flatK] at h
    split at h
    · rename_i k hu
      injection h with h; subst h
      obtain ⟨m, rfl, _, hw⟩ := DataW.trod_int hu ht
      exact ⟨⟨m, rfl, hw⟩, trivial⟩
    · rename_i hu
      injection h with h; subst h
      obtain ⟨b, rfl, _⟩ := DataW.trod_bool hu ht
      exact ⟨⟨b, rfl⟩, trivial⟩
    · rename_i m e hu
      split at h
      · rename_i ks' he
        split at h
        · rename_i h1 h2
          injection h with h; subst h
          have h1 := Nat.eq_of_beq_eq_true h1
          have h2 := Nat.eq_of_beq_eq_true h2
          obtain ⟨xs, q, rfl, _, hl, hxl, hx⟩ := DataW.trod_array hu ht
          refine FlatIs.rep (by rw [hl, h2]) fun i hi => ?_
          have := hx i hi
          rw [h1, List.getElem?_eq_getElem (by omega)] at this
          exact flat_trod n he this
        · cases h
      · cases h
    · rename_i fs hu
      split at h
      · rename_i ks' he
        split at h
        · rename_i h1
          injection h with h; subst h
          have h1 := Nat.eq_of_beq_eq_true h1
          obtain ⟨xs, q, rfl, _, hl, hxl, hx⟩ := DataW.trod_struct hu ht
          have := flatFs_is (cs := cs) he (by rw [hl, h1]; omega) (fun f hf k hk => ?_)
          · simpa using this
          · obtain ⟨i, hi⟩ := List.getElem?_of_mem hf
            have h3 := hx i f (by rw [← Array.getElem?_toList]; exact hi)
            have hlt : i < xs.length := by
              rw [hxl]
              have := (List.getElem?_eq_some_iff.1 hi).1
              simpa using this
            rw [List.getElem?_eq_getElem hlt] at h3
            exact flat_trod n hk h3
        · cases h
      · cases h
    · cases h

theorem open_flat {t : TypeId} {xs : Array Value} {d : DataW H} {ps : List MemPlace} {n : Nat} {ks : List SK} (hk : flatK P n t = some ks)
    (h : DataW.Trod enc P w base spare held t (.agg xs) d ps) : FlatIs ks xs.toList := by
  obtain ⟨m, hm⟩ := h
  exact flat_trod n hk hm
end

theorem FlatIs.int {k : IntKind} {ks : List SK} {cs : List Value} (h : FlatIs (.int k :: ks) cs) : ∃ n r, cs = .int k n :: r ∧ (Lit.int k n).wf = true ∧ FlatIs ks r := by
  cases cs with
  | nil => exact h.elim
  | cons v vs => obtain ⟨⟨n, rfl, hw⟩, h2⟩ := h; exact ⟨n, vs, rfl, hw, h2⟩
theorem FlatIs.bool {ks : List SK} {cs : List Value} (h : FlatIs (.bool :: ks) cs) : ∃ b r, cs = .bool b :: r ∧ FlatIs ks r := by
  cases cs with
  | nil => exact h.elim
  | cons v vs => obtain ⟨⟨b, rfl⟩, h2⟩ := h; exact ⟨b, vs, rfl, h2⟩
theorem FlatIs.nil {cs : List Value} (h : FlatIs [] cs) : cs = [] := by
  cases cs with
  | nil => rfl
  | cons v vs => exact h.elim
theorem agg_of_list {xs : Array Value} {l : List Value} (h : xs.toList = l) : Value.agg xs = .agg l.toArray := by rw [← h]
def aggB (P : Program) (t : TypeId) : Bool := match P.underlying t with | some (.struct _) => true | some (.array _ _) => true | _ => false
theorem okWide_agg {P : Program} {w : World} {r : Reach} {base : Nat} {t : TypeId} {v : Value} (ht : aggB P t = true) (h : Value.okWide P w r base t v) : ∃ cs : Array Value, v = .agg cs ∧ cs.size = P.cellsOf t := by
  unfold aggB at ht
  split at ht
  · rename_i hu; simp only [Value.okWide, hu] at h; obtain ⟨cs, h1, h2, _⟩ := h; exact ⟨cs, h1, h2⟩
  · rename_i hu; simp only [Value.okWide, hu] at h; obtain ⟨cs, h1, h2, _⟩ := h; exact ⟨cs, h1, h2⟩
  · cases ht
end Go.Sx
