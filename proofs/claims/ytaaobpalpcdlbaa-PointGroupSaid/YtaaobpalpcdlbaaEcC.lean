import Derived.Test.YtaaobpalpcdlbaaEcA
import Derived.Test.YtaaobpalpcdlbaaEcB
namespace Go.EC
set_option linter.unusedVariables false

def pinv {p : Nat} [NeZero p] (x : Fin p) : Fin p := Fin.ofNat p (x.val ^ (p - 2))
theorem pinv_mul {p : Nat} [NeZero p] (hp : Pr p) (x : Fin p) (hx : x ≠ 0) : pinv x * x = 1 := by
  have p1 := hp.1
  apply Fin.ext
  rw [Fin.val_mul]
  have h : ¬ p ∣ x.val := by
    intro h
    have := Nat.eq_zero_of_dvd_of_lt h x.isLt
    exact hx (Fin.ext (by simpa using this))
  have e : x.val ^ (p - 2) * x.val = x.val ^ (p - 1) := by
    rw [← Nat.pow_succ, show (p - 2).succ = p - 1 by omega]
  have e2 : (pinv x).val = x.val ^ (p - 2) % p := rfl
  have e3 : ((1 : Fin p) : Nat) = 1 % p := rfl
  rw [e2, Nat.mod_mul_mod, e, fermat1 hp h, e3, Nat.mod_eq_of_lt p1]


def Cv.mul {p : Nat} [NeZero p] (C : Cv p) : Nat → Pt p → Pt p
  | 0, _ => .O
  | n + 1, P => C.add (C.mul n P) P
theorem Cv.O_add {p : Nat} [NeZero p] (C : Cv p) (P : Pt p) : C.add .O P = P := by cases P <;> rfl
theorem Cv.add_O {p : Nat} [NeZero p] (C : Cv p) (P : Pt p) : C.add P .O = P := by cases P <;> rfl
theorem Cv.on_O {p : Nat} [NeZero p] (C : Cv p) : C.on (.O : Pt p) := trivial
theorem Cv.on_mul {p : Nat} [NeZero p] (C : Cv p) {P : Pt p} (h : C.on P) : ∀ n, C.on (C.mul n P)
  | 0 => trivial
  | n + 1 => C.on_add (C.on_mul h n) h
theorem Cv.mul_one {p : Nat} [NeZero p] (C : Cv p) (P : Pt p) : C.mul 1 P = P := C.O_add P
theorem Cv.mul_O {p : Nat} [NeZero p] (C : Cv p) : ∀ n, C.mul n (.O : Pt p) = .O
  | 0 => rfl
  | n + 1 => by show C.add (C.mul n .O) .O = .O; rw [C.mul_O n]; rfl
theorem Cv.mul_add {p : Nat} [NeZero p] (C : Cv p) {P : Pt p} (h : C.on P) (m : Nat) : ∀ n, C.mul (m + n) P = C.add (C.mul m P) (C.mul n P)
  | 0 => (C.add_O _).symm
  | n + 1 => by
    show C.add (C.mul (m + n) P) P = C.add (C.mul m P) (C.add (C.mul n P) P)
    rw [C.mul_add h m n, C.add_assoc (C.on_mul h m) (C.on_mul h n) h]
theorem Cv.mul_mul {p : Nat} [NeZero p] (C : Cv p) {P : Pt p} (h : C.on P) (n : Nat) : ∀ m, C.mul (m * n) P = C.mul m (C.mul n P)
  | 0 => by rw [Nat.zero_mul]; rfl
  | m + 1 => by
    rw [Nat.succ_mul, C.mul_add h, C.mul_mul h n m]; rfl
theorem Cv.mul_comm {p : Nat} [NeZero p] (C : Cv p) {P : Pt p} (h : C.on P) (m n : Nat) : C.mul m (C.mul n P) = C.mul n (C.mul m P) := by
  rw [← C.mul_mul h, ← C.mul_mul h, Nat.mul_comm]
theorem Cv.add_swap {p : Nat} [NeZero p] (C : Cv p) {P Q R S : Pt p} (hP : C.on P) (hQ : C.on Q) (hR : C.on R) (hS : C.on S) : C.add (C.add P Q) (C.add R S) = C.add (C.add P R) (C.add Q S) := by
  rw [C.add_assoc hP hQ (C.on_add hR hS), ← C.add_assoc hQ hR hS, C.add_comm hQ hR, C.add_assoc hR hQ hS, ← C.add_assoc hP hR (C.on_add hQ hS)]
theorem Cv.mul_dist {p : Nat} [NeZero p] (C : Cv p) {P Q : Pt p} (hP : C.on P) (hQ : C.on Q) : ∀ n, C.mul n (C.add P Q) = C.add (C.mul n P) (C.mul n Q)
  | 0 => rfl
  | n + 1 => by
    show C.add (C.mul n (C.add P Q)) (C.add P Q) = _
    rw [C.mul_dist hP hQ n, C.add_swap (C.on_mul hP n) (C.on_mul hQ n) hP hQ]; rfl
theorem Cv.mul_neg {p : Nat} [NeZero p] (C : Cv p) {P : Pt p} (h : C.on P) : ∀ n, C.mul n P.neg = (C.mul n P).neg
  | 0 => rfl
  | n + 1 => by
    show C.add (C.mul n P.neg) P.neg = (C.add (C.mul n P) P).neg
    rw [C.mul_neg h n, C.neg_add (C.on_mul h n) h]
theorem Cv.neg_unique {p : Nat} [NeZero p] (C : Cv p) {P Q : Pt p} (hP : C.on P) (hQ : C.on Q) (h : C.add P Q = .O) : Q = P.neg := by
  have := C.neg_add_cancel hP hQ
  rw [h, C.add_O] at this
  exact this.symm

theorem Cv.ord {p : Nat} [NeZero p] (C : Cv p) {G : Pt p} {n : Nat} (hG : C.on G) (hn : Pr n) (h : C.mul n G = .O) (h0 : G ≠ .O) {i : Nat} (hi : C.mul i G = .O) : n ∣ i := by
  have key : ∀ a b, C.mul a G = .O → C.mul b G = .O → C.mul (Nat.gcd a b) G = .O := by
    intro a b
    induction a, b using Nat.gcd.induction with
    | H0 b => intro _ hb; simpa using hb
    | H1 a b ha ih =>
      intro h1 h2
      rw [Nat.gcd_rec]
      refine ih ?_ h1
      rw [show b = a * (b / a) + b % a from (Nat.div_add_mod b a).symm, C.mul_add hG, Nat.mul_comm a, C.mul_mul hG, h1, C.mul_O, C.O_add] at h2
      exact h2
  have k := key n i h hi
  rcases hn.2 _ (Nat.gcd_dvd_left n i) with e | e
  · rw [e, C.mul_one] at k; exact absurd k h0
  · exact e ▸ Nat.gcd_dvd_right n i
theorem Cv.mul_mod {p : Nat} [NeZero p] (C : Cv p) {G : Pt p} {n : Nat} (hG : C.on G) (h : C.mul n G = .O) (i : Nat) : C.mul (i % n) G = C.mul i G := by
  have : C.mul i G = C.mul (n * (i / n) + i % n) G := by rw [Nat.div_add_mod]
  rw [this, C.mul_add hG, Nat.mul_comm n, C.mul_mul hG, h, C.mul_O, C.O_add]

def Cv.code {p : Nat} [NeZero p] (C : Cv p) : Pt p → Nat
  | .O => 0
  | .A x y => 1 + 2 * x.val + (if y.val < (-y).val then 1 else 0)
theorem Cv.code_lt {p : Nat} [NeZero p] (C : Cv p) (P : Pt p) : C.code P < 2 * p + 1 := by
  cases P with
  | O => simp [Cv.code]
  | A x y => simp only [Cv.code]; have := x.isLt; split <;> omega
theorem Cv.code_inj {p : Nat} [NeZero p] (C : Cv p) {P Q : Pt p} (hP : C.on P) (hQ : C.on Q) (h : C.code P = C.code Q) : P = Q := by
  cases P with
  | O => cases Q with
    | O => rfl
    | A x y => simp only [Cv.code] at h; omega
  | A x1 y1 => cases Q with
    | O => simp only [Cv.code] at h; omega
    | A x2 y2 =>
      simp only [Cv.code] at h
      have hx : x1.val = x2.val := by split at h <;> split at h <;> omega
      have hx := Fin.ext hx
      subst hx
      simp only [Cv.on] at hP hQ
      have e : (y1 - y2) * (y1 + y2) = 0 := by grind -lia
      by_cases z : y1 - y2 = 0
      · rw [eq_of_sub z]
      · have e2 := C.nz e z
        have e3 : y1 = -y2 := by grind -lia
        have e4 : -y1 = y2 := by grind -lia
        rw [e4] at h
        rw [e3] at h
        have : (-y2).val = y2.val := by split at h <;> split at h <;> omega
        rw [e3, Fin.ext this]

theorem pigeon : ∀ (k : Nat) (f : Nat → Nat), (∀ i, i ≤ k → f i < k) → ∃ i j, i < j ∧ j ≤ k ∧ f i = f j
  | 0, f, h => by have := h 0 (Nat.le_refl _); omega
  | k + 1, f, h => by
    by_cases e : ∃ i, i ≤ k ∧ f i = f (k + 1)
    · obtain ⟨i, h1, h2⟩ := e
      exact ⟨i, k + 1, by omega, Nat.le_refl _, h2⟩
    · have hne : ∀ i, i ≤ k → f i ≠ f (k + 1) := fun i hi z => e ⟨i, hi, z⟩
      obtain ⟨i, j, h1, h2, h3⟩ := pigeon k (fun i => if f i > f (k + 1) then f i - 1 else f i) (by
        intro i hi
        have a := h i (by omega)
        have b := h (k + 1) (Nat.le_refl _)
        have c := hne i hi
        show (if f i > f (k + 1) then f i - 1 else f i) < k
        split <;> omega)
      refine ⟨i, j, h1, by omega, ?_⟩
      have a := hne i (by omega)
      have b := hne j h2
      change (if f i > f (k + 1) then f i - 1 else f i) = (if f j > f (k + 1) then f j - 1 else f j) at h3
      split at h3 <;> split at h3 <;> omega

theorem Cv.cyclic {p : Nat} [NeZero p] (C : Cv p) {G : Pt p} {n : Nat} (hG : C.on G) (hn : Pr n) (h : C.mul n G = .O) (h0 : G ≠ .O) (hodd : n % 2 = 1) (h3 : 2 * p + 1 < 3 * n) (h2 : ∀ P : Pt p, C.on P → C.add P P = .O → P = .O)
    (P : Pt p) (hP : C.on P) : ∃ i, P = C.mul i G := by
  apply Classical.byContradiction
  intro hno
  have hno : ∀ i, P ≠ C.mul i G := fun i e => hno ⟨i, e⟩
  have n1 := hn.1
  have oP := hP
  have oM := C.on_mul hG
  have oPP := C.on_add hP hP
  -- the neighbour of a multiple
  have ng : ∀ j, (C.mul j G).neg = C.mul ((n - 1) * j) G := by
    intro j
    refine (C.neg_unique (oM j) (oM _) ?_).symm
    rw [← C.mul_add hG, show j + (n - 1) * j = j * n by rw [Nat.sub_mul]; have := Nat.le_mul_of_pos_left j (show 0 < n by omega); rw [Nat.mul_comm j n]; omega, C.mul_mul hG, h, C.mul_O]
  have same : ∀ Q : Pt p, C.on Q → ∀ i j, i < j → j < n → C.add Q (C.mul i G) = C.add Q (C.mul j G) → False := by
    intro Q hQ i j h1 h4 e
    have e := C.add_left hQ (oM i) (oM j) e
    rw [show j = i + (j - i) by omega, C.mul_add hG] at e
    have e : C.mul (j - i) G = .O := by
      refine C.add_left (oM i) (oM _) C.on_O ?_
      rw [← e, C.add_O]
    have := Nat.le_of_dvd (by omega) (C.ord hG hn h h0 e)
    omega
  have l1 : ∀ i j, C.mul i G ≠ C.add P (C.mul j G) := by
    intro i j e
    refine hno (i + (n - 1) * j) ?_
    rw [C.mul_add hG, ← ng, e, C.add_assoc hP (oM j) (C.on_neg (oM j)), C.add_neg, C.add_O]
  have l2 : ∀ i j, C.add P (C.mul i G) ≠ C.add (C.add P P) (C.mul j G) := by
    intro i j e
    rw [C.add_assoc hP hP (oM j)] at e
    exact l1 i j (C.add_left hP (oM i) (C.on_add hP (oM j)) e)
  have l3 : ∀ i j, C.mul i G ≠ C.add (C.add P P) (C.mul j G) := by
    intro i j e
    have e1 : C.add P P = C.mul (i + (n - 1) * j) G := by
      rw [C.mul_add hG, ← ng, e, C.add_assoc oPP (oM j) (C.on_neg (oM j)), C.add_neg, C.add_O]
    generalize i + (n - 1) * j = k at e1
    have : ∃ m, C.mul k G = C.add (C.mul m G) (C.mul m G) := by
      rcases Nat.mod_two_eq_zero_or_one k with z | z
      · exact ⟨k / 2, by rw [← C.mul_add hG, show k / 2 + k / 2 = k by omega]⟩
      · exact ⟨(k + n) / 2, by rw [← C.mul_add hG, show (k + n) / 2 + (k + n) / 2 = k + n by omega, C.mul_add hG, h, C.add_O]⟩
    obtain ⟨m, hm⟩ := this
    rw [hm] at e1
    refine hno m ?_
    have oN := C.on_neg (oM m)
    have z := h2 (C.add P (C.mul m G).neg) (C.on_add hP oN) (by
      rw [C.add_swap hP oN hP oN, e1, ← C.neg_add (oM m) (oM m), C.add_neg])
    have z := C.neg_unique hP oN z
    have := congrArg Pt.neg z
    rw [Pt.neg_neg, Pt.neg_neg] at this
    exact this.symm
  let q : Nat → Pt p := fun i => if i < n then C.add .O (C.mul i G) else if i < 2 * n then C.add P (C.mul (i - n) G) else C.add (C.add P P) (C.mul (i - 2 * n) G)
  have oq : ∀ i, C.on (q i) := by
    intro i
    show C.on (if i < n then C.add .O (C.mul i G) else if i < 2 * n then C.add P (C.mul (i - n) G) else C.add (C.add P P) (C.mul (i - 2 * n) G))
    split
    · exact C.on_add C.on_O (oM _)
    · split
      · exact C.on_add hP (oM _)
      · exact C.on_add oPP (oM _)
  obtain ⟨i, j, h1, h4, h5⟩ := pigeon (2 * p + 1) (fun i => C.code (q i)) fun i _ => C.code_lt _
  have e := C.code_inj (oq i) (oq j) h5
  have q0 : ∀ i, i < n → q i = C.add .O (C.mul i G) := fun i hi => if_pos hi
  have q1 : ∀ i, ¬ i < n → i < 2 * n → q i = C.add P (C.mul (i - n) G) := fun i hi hj => by show (if _ then _ else _) = _; rw [if_neg hi, if_pos hj]
  have q2 : ∀ i, ¬ i < 2 * n → q i = C.add (C.add P P) (C.mul (i - 2 * n) G) := fun i hi => by show (if _ then _ else _) = _; rw [if_neg (by omega), if_neg hi]
  by_cases a1 : i < n
  · rw [q0 i a1] at e
    by_cases b1 : j < n
    · rw [q0 j b1] at e
      exact same _ C.on_O i j h1 b1 e
    · rw [C.O_add] at e
      by_cases b2 : j < 2 * n
      · rw [q1 j b1 b2] at e; exact l1 _ _ e
      · rw [q2 j b2] at e; exact l3 _ _ e
  · by_cases a2 : i < 2 * n
    · rw [q1 i a1 a2] at e
      by_cases b2 : j < 2 * n
      · rw [q1 j (by omega) b2] at e
        exact same _ hP (i - n) (j - n) (by omega) (by omega) e
      · rw [q2 j b2] at e; exact l2 _ _ e
    · rw [q2 i a2, q2 j (by omega)] at e
      exact same _ oPP (i - 2 * n) (j - 2 * n) (by omega) (by omega) e
end Go.EC
