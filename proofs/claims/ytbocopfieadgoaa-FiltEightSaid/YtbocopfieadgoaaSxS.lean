import Derived.Test.YtbocopfieadgoaaSxR
import Derived.Deep.Slices
import Derived.WideShapes
set_option linter.unusedVariables false
namespace Go.Sx
open Go.ChangeShapes Go.WideShapes Go.ChangeAt Go.RowKit Go.Deep

def KsOf : List SK → List FC → Prop
  | [], [] => True
  | .int k :: ks, .int k' f :: fs => k = k' ∧ (∀ i, (Lit.int k (f i)).wf = true) ∧ KsOf ks fs
  | .bool :: ks, .bool f :: fs => KsOf ks fs
  | _, _ => False
theorem KsOf.int {k : IntKind} {ks : List SK} {fs : List FC} (h : KsOf (.int k :: ks) fs) : ∃ f r, fs = .int k f :: r ∧ (∀ i, (Lit.int k (f i)).wf = true) ∧ KsOf ks r := by
  match fs, h with
  | .int k' f :: r, h =>
    obtain ⟨h0, h1, h2⟩ := h
    subst h0
    exact ⟨f, r, rfl, h1, h2⟩
theorem KsOf.bool {ks : List SK} {fs : List FC} (h : KsOf (.bool :: ks) fs) : ∃ f r, fs = .bool f :: r ∧ KsOf ks r := by
  match fs, h with
  | .bool f :: r, h2 => exact ⟨f, r, rfl, h2⟩
theorem KsOf.nil {fs : List FC} (h : KsOf [] fs) : fs = [] := by
  match fs, h with
  | [], _ => rfl
def intAt (k : IntKind) : Option Value → Int
  | some (.int _ n) => if (Lit.int k n).wf = true then n else 0
  | _ => 0
def boolAt : Option Value → Bool
  | some (.bool b) => b
  | _ => false
def fcsOf (V : Nat → List Value) : List SK → Nat → List FC
  | [], _ => []
  | .int k :: ks, j => .int k (fun i => intAt k ((V i.toNat)[j]?)) :: fcsOf V ks (j + 1)
  | .bool :: ks, j => .bool (fun i => boolAt ((V i.toNat)[j]?)) :: fcsOf V ks (j + 1)
theorem intAt_wf (k : IntKind) (o : Option Value) : (Lit.int k (intAt k o)).wf = true := by
  unfold intAt
  split
  · split
    · assumption
    · cases k <;> rfl
  · cases k <;> rfl
theorem fcsOf_ks (V : Nat → List Value) : ∀ (ks : List SK) (j : Nat), KsOf ks (fcsOf V ks j)
  | [], _ => trivial
  | .int k :: ks, j => ⟨rfl, fun i => intAt_wf k _, fcsOf_ks V ks (j + 1)⟩
  | .bool :: ks, j => fcsOf_ks V ks (j + 1)
theorem fcsOf_len (V : Nat → List Value) : ∀ (ks : List SK) (j : Nat), (fcsOf V ks j).length = ks.length
  | [], _ => rfl
  | .int k :: ks, j => by simp only [fcsOf, List.length_cons, fcsOf_len V ks (j + 1)]
  | .bool :: ks, j => by simp only [fcsOf, List.length_cons, fcsOf_len V ks (j + 1)]
theorem fcsOf_val (V : Nat → List Value) (i : Int) : ∀ (ks : List SK) (j : Nat), FlatIs ks ((V i.toNat).drop j) → ∀ (q : Nat) (fc : FC), (fcsOf V ks j)[q]? = some fc → (V i.toNat)[j + q]? = some (fc.val i)
  | [], j, _, q, fc, h => by simp [fcsOf] at h
  | .int k :: ks, j, hf, q, fc, h => by
    obtain ⟨n, r, e, hw, hr⟩ := hf.int
    have e0 : (V i.toNat)[j]? = some (.int k n) := by
      have := congrArg (fun l => l[0]?) e
      simpa [List.getElem?_drop] using this
    have e1 : (V i.toNat).drop (j + 1) = r := by
      have := congrArg (fun l => l.drop 1) e
      simpa [List.drop_drop] using this
    match q, h with
    | 0, h =>
      simp only [fcsOf, List.getElem?_cons_zero, Option.some.injEq] at h
      subst h
      rw [Nat.add_zero, e0]
      simp only [FC.val, e0, intAt, hw, if_true]
    | q + 1, h =>
      simp only [fcsOf, List.getElem?_cons_succ] at h
      have := fcsOf_val V i ks (j + 1) (by rw [e1]; exact hr) q fc h
      rw [show j + (q + 1) = j + 1 + q by omega]; exact this
  | .bool :: ks, j, hf, q, fc, h => by
    obtain ⟨b, r, e, hr⟩ := hf.bool
    have e0 : (V i.toNat)[j]? = some (.bool b) := by
      have := congrArg (fun l => l[0]?) e
      simpa [List.getElem?_drop] using this
    have e1 : (V i.toNat).drop (j + 1) = r := by
      have := congrArg (fun l => l.drop 1) e
      simpa [List.drop_drop] using this
    match q, h with
    | 0, h =>
      simp only [fcsOf, List.getElem?_cons_zero, Option.some.injEq] at h
      subst h
      rw [Nat.add_zero, e0]
      simp only [FC.val, e0, boolAt]
    | q + 1, h =>
      simp only [fcsOf, List.getElem?_cons_succ] at h
      have := fcsOf_val V i ks (j + 1) (by rw [e1]; exact hr) q fc h
      rw [show j + (q + 1) = j + 1 + q by omega]; exact this
section
variable {H : Type} {enc : TypeId × Value → H} {P : Program} {w : World} {base : Nat} {spare : Nat → Bool} {held : Bool}
theorem open_sl {t e : TypeId} {v : Value} {d : DataW H} {ps : List MemPlace} {m : Nat} {ks : List SK} {r : Reach} {b0 : Nat} (ht : P.underlying t = some (.slice e)) (hk : flatK P m e = some ks) (hc : P.cellsOf e = ks.length)
    (hval : Value.okWide P w r b0 t v) (h : DataW.Trod enc P w base spare held t v d ps) :
    v = .slice none 0 0 ∨ ∃ (a : Addr) (len cap : Nat) (fs : List FC), v = .slice (some a) len cap ∧ len ≤ cap ∧ cap ≤ maxLen ∧ KsOf ks fs ∧ ∀ i : Int, 0 ≤ i → i < (len : Int) → BaseAt w a fs i := by
  obtain ⟨x, l, c, rfl⟩ := Go.WideShapes.okWide_slice ht hval
  obtain ⟨fuel, hf⟩ := h
  simp only [Value.cells] at hf
  rcases open_slice ht hf with ⟨h0, _⟩ | ⟨a, len, cap, m', n, D, Pl, h0, hb, hl, hm, hmm, _, hx⟩
  · left
    simpa using h0
  right
  have h0 : x = some a ∧ l = len ∧ c = cap := by simpa using h0
  obtain ⟨rfl, rfl, rfl⟩ := h0
  have le : l ≤ m' := by rw [hmm]; split <;> omega
  obtain ⟨V, hV⟩ := choose_lt (α := List Value) (p := fun i cs' => w.cells? base (a.add (i * P.cellsOf e)) (P.cellsOf e) = some cs' ∧ FlatIs ks cs') (n := l) (fun i hi => by
    obtain ⟨cs', h1, h2⟩ := hx i (by omega)
    exact ⟨cs', h1, flat_trod m hk h2⟩)
  refine ⟨a, l, c, fcsOf V ks 0, rfl, hl, hm, fcsOf_ks V ks 0, fun i i0 i1 j fc hj => ?_⟩
  have hi : i.toNat < l := by omega
  obtain ⟨h1, h2⟩ := hV i.toNat hi
  obtain ⟨_, hlen, hcell⟩ := World.cells?_some h1
  have hjl : j < ks.length := by have := (List.getElem?_eq_some_iff.1 hj).1; rwa [fcsOf_len] at this
  have := fcsOf_val V i ks 0 (by simpa using h2) j fc hj
  rw [Nat.zero_add] at this
  rw [fcsOf_len, ← this, ← hcell j (by omega), hc]
  rw [addr_add_add]
end
end Go.Sx
