import Derived.Test.YtaaobpalpcdlbaaEcC
namespace Go.EC
set_option linter.unusedVariables false

def toF (p : Nat) [NeZero p] (x : Int) : Fin p := Fin.ofNat p (x % (p : Int)).toNat
section
variable {p : Nat} [NeZero p]
theorem pos_p : (0 : Int) < (p : Int) := by have := Nat.pos_of_neZero p; omega
theorem toF_val (x : Int) : ((toF p x).val : Int) = x % (p : Int) := by
  have h0 := Int.emod_nonneg x (show (p : Int) ≠ 0 by have := pos_p (p := p); omega)
  have h1 := Int.emod_lt_of_pos x (pos_p (p := p))
  show (((x % (p : Int)).toNat % p : Nat) : Int) = _
  rw [Nat.mod_eq_of_lt (by omega)]; omega
theorem toF_ext {x y : Int} (h : x % (p : Int) = y % (p : Int)) : toF p x = toF p y := by unfold toF; rw [h]
theorem eq_of_toF {x y : Int} (h : toF p x = toF p y) : x % (p : Int) = y % (p : Int) := by rw [← toF_val, ← toF_val, h]
theorem toF_of_val {x : Fin p} {n : Int} (h : (x.val : Int) = n % (p : Int)) : x = toF p n := by
  apply Fin.ext; have := toF_val (p := p) n; omega
theorem toF_mod (x : Int) : toF p (x % (p : Int)) = toF p x := toF_ext (by rw [Int.emod_emod])
theorem toF_zero : toF p 0 = 0 := by
  symm; apply toF_of_val; simp
theorem toF_one : toF p 1 = 1 := by
  symm; apply toF_of_val
  show ((1 % p : Nat) : Int) = _
  push_cast; rfl
theorem toF_add (x y : Int) : toF p (x + y) = toF p x + toF p y := by
  symm; apply toF_of_val
  rw [Fin.val_add]; push_cast; rw [toF_val, toF_val, ← Int.add_emod]
theorem toF_mul (x y : Int) : toF p (x * y) = toF p x * toF p y := by
  symm; apply toF_of_val
  rw [Fin.val_mul]; push_cast; rw [toF_val, toF_val, ← Int.mul_emod]
theorem toF_neg (x : Int) : toF p (-x) = -toF p x := by
  have h : toF p (-x) + toF p x = 0 := by rw [← toF_add, show -x + x = 0 by omega, toF_zero]
  grind -lia
theorem toF_sub (x y : Int) : toF p (x - y) = toF p x - toF p y := by
  rw [show x - y = x + -y by omega, toF_add, toF_neg]; grind -lia
theorem toF_natCast (n : Nat) : toF p (n : Int) = Fin.ofNat p n := by
  symm; apply toF_of_val
  show ((n % p : Nat) : Int) = _
  push_cast; rfl
theorem toF_self (x : Fin p) : toF p (x.val : Int) = x := by
  symm; apply toF_of_val; rw [Int.emod_eq_of_lt (by omega) (by have := x.isLt; omega)]
theorem toF_inj {x y : Int} (hx : 0 ≤ x ∧ x < p) (hy : 0 ≤ y ∧ y < p) (h : toF p x = toF p y) : x = y := by
  have := eq_of_toF h
  rwa [Int.emod_eq_of_lt hx.1 hx.2, Int.emod_eq_of_lt hy.1 hy.2] at this
theorem toF_eq_zero {x : Int} (hx : 0 ≤ x ∧ x < p) : toF p x = 0 ↔ x = 0 := by
  constructor
  · intro h; exact toF_inj hx ⟨by omega, pos_p⟩ (by rw [h, toF_zero])
  · rintro rfl; exact toF_zero

def fpow (x : Fin p) : Nat → Fin p
  | 0 => 1
  | n + 1 => fpow x n * x
theorem fpow_add (x : Fin p) (m : Nat) : ∀ n, fpow x (m + n) = fpow x m * fpow x n
  | 0 => by simp only [Nat.add_zero, fpow]; grind -lia
  | n + 1 => by rw [← Nat.add_assoc]; simp only [fpow]; rw [fpow_add x m n]; grind -lia
theorem fpow_mul (x : Fin p) (m : Nat) : ∀ n, fpow x (m * n) = fpow (fpow x m) n
  | 0 => rfl
  | n + 1 => by rw [Nat.mul_succ, fpow_add, fpow_mul x m n]; rfl
theorem fpow_val (x : Fin p) : ∀ n, (fpow x n).val = x.val ^ n % p
  | 0 => rfl
  | n + 1 => by
    show (fpow x n * x).val = _
    rw [Fin.val_mul, fpow_val x n, Nat.pow_succ, Nat.mod_mul_mod]
theorem fpow_p (hp : Pr p) (x : Fin p) : fpow x p = x := by
  apply Fin.ext; rw [fpow_val, fermat hp, Nat.mod_eq_of_lt x.isLt]
theorem fpow_zero (n : Nat) : fpow (0 : Fin p) (n + 1) = 0 := by simp only [fpow]; grind -lia
theorem one_ne_zero (hp : Pr p) : (1 : Fin p) ≠ 0 := by
  intro h
  have := congrArg Fin.val h
  have e : ((1 : Fin p) : Nat) = 1 % p := rfl
  have e0 : ((0 : Fin p) : Nat) = 0 := rfl
  rw [e, e0, Nat.mod_eq_of_lt hp.1] at this
  omega
theorem fpow_p1 (hp : Pr p) {x : Fin p} (hx : x ≠ 0) : fpow x (p - 1) = 1 := by
  have h1 := hp.1
  have e : fpow x (p - 1) * x = x := (congrArg (fpow x) (show p - 1 + 1 = p by omega)).trans (fpow_p hp x)
  have := pinv_mul hp x hx
  have k : fpow x (p - 1) * (pinv x * x) = pinv x * x := by
    have : fpow x (p - 1) * (pinv x * x) = pinv x * (fpow x (p - 1) * x) := by grind -lia
    rw [this, e]
  rw [this] at k
  grind -lia
theorem pinv_pow (hp : Pr p) (x : Fin p) : fpow x (p - 2) = pinv x := by
  apply Fin.ext; rw [fpow_val]; rfl

def Rp (X Y Z : Fin p) : Pt p → Prop
  | .O => Z = 0
  | .A x y => Z ≠ 0 ∧ X = x * Z ∧ Y = y * Z
def Rj (X Y Z : Fin p) : Pt p → Prop
  | .O => Z = 0
  | .A x y => Z ≠ 0 ∧ X = x * (Z * Z) ∧ Y = y * (Z * (Z * Z))
end

section
variable {p : Nat} [NeZero p] (C : Cv p)
include C
theorem Cv.mul_ne {a b : Fin p} (ha : a ≠ 0) (hb : b ≠ 0) : a * b ≠ 0 := fun h => hb (C.nz h ha)
theorem Cv.two_ne {a : Fin p} (ha : a ≠ 0) : 2 * a ≠ 0 := C.mul_ne C.two ha
theorem Cv.add_same {x y : Fin p} (h : y = 0) : C.add (.A x y) (.A x y) = .O := if_pos ⟨rfl, by rw [h]; grind -lia⟩
theorem Cv.eq_neg_or {x y1 y2 : Fin p} (h1 : C.on (.A x y1)) (h2 : C.on (.A x y2)) : y1 = y2 ∨ y1 + y2 = 0 := by
  simp only [Cv.on] at h1 h2
  have e : (y1 - y2) * (y1 + y2) = 0 := by grind -lia
  by_cases z : y1 - y2 = 0
  · exact .inl (eq_of_sub z)
  · exact .inr (C.nz e z)
theorem Cv.sl_self {x y al : Fin p} (hy : y ≠ 0) (h : al * (2 * y) = 3 * (x * x) + 2 * C.a2 * x + C.a4) : C.Sl x y x y al := by
  refine ⟨by grind -lia, ?_⟩
  have : al * (y + y) = al * (2 * y) := by grind -lia
  rw [this, h]; grind -lia
theorem Cv.sl_other {x1 y1 x2 y2 al : Fin p} (h1 : C.on (.A x1 y1)) (h2 : C.on (.A x2 y2)) (hx : x1 ≠ x2) (h : y1 - y2 = al * (x1 - x2)) : C.Sl x1 y1 x2 y2 al := by
  have hd : ¬ (x1 = x2 ∧ y1 + y2 = 0) := fun z => hx z.1
  have s := C.slope_ok h1 h2 hd
  have n : x1 - x2 ≠ 0 := fun z => hx (eq_of_sub z)
  have e : (x1 - x2) * al = (x1 - x2) * C.slope x1 y1 x2 y2 := by
    have := s.h1
    rw [h] at this
    grind -lia
  rw [C.cancel n e]; exact s

theorem Cv.twice_p (ha2 : C.a2 = 0) {X Y Z w s b h : Fin p} {P : Pt p} (hP : C.on P) (hR : Rp X Y Z P) (hn : Z ≠ 0) (hY : Y ≠ 0)
    (hw : w = 3 * (X * X) + C.a4 * (Z * Z)) (hs : s = Y * Z) (hb : b = X * Y * s) (hh : h = w * w - 8 * b) :
    Rp (2 * (h * s)) (w * (4 * b - h) - 8 * (Y * s * (Y * s))) (8 * (s * (s * s))) (C.add P P) := by
  cases P with
  | O => exact absurd hR hn
  | A x y =>
    obtain ⟨_, rfl, rfl⟩ := hR
    have hy : y ≠ 0 := by rintro rfl; exact hY (by grind -lia)
    have h2y := C.two_ne hy
    have hi := C.inv_mul _ h2y
    have sl := C.sl_self (x := x) (al := (3 * (x * x) + 2 * C.a2 * x + C.a4) * C.inv (2 * y)) hy (by
      generalize C.inv (2 * y) = i at *
      have : (3 * (x * x) + 2 * C.a2 * x + C.a4) * i * (2 * y) = (3 * (x * x) + 2 * C.a2 * x + C.a4) * (i * (2 * y)) := by grind -lia
      rw [this, hi]; grind -lia)
    have hal : w = 2 * y * ((3 * (x * x) + 2 * C.a2 * x + C.a4) * C.inv (2 * y)) * (Z * Z) := by
      have : 2 * y * ((3 * (x * x) + 2 * C.a2 * x + C.a4) * C.inv (2 * y)) * (Z * Z) = (3 * (x * x) + 2 * C.a2 * x + C.a4) * (C.inv (2 * y) * (2 * y)) * (Z * Z) := by
        generalize C.inv (2 * y) = i; grind -lia
      rw [this, hi, hw, ha2]; grind -lia
    have hd : ¬ (x = x ∧ y + y = 0) := fun z => hy (C.nz2 z.2)
    rw [C.add_eq hP hP hd sl]
    generalize (3 * (x * x) + 2 * C.a2 * x + C.a4) * C.inv (2 * y) = al at *
    have s0 : s ≠ 0 := by rw [hs]; exact C.mul_ne (C.mul_ne hy hn) hn
    have h8 : (8 : Fin p) ≠ 0 := by
      have : (8 : Fin p) = 2 * (2 * 2) := by grind -lia
      rw [this]; exact C.mul_ne C.two (C.mul_ne C.two C.two)
    refine ⟨C.mul_ne h8 (C.mul_ne s0 (C.mul_ne s0 s0)), ?_, ?_⟩
    · simp only [Cv.thx, ha2]; rw [hh, hb, hal, hs]; grind -lia
    · simp only [Cv.thy, Cv.thx, ha2]; rw [hh, hb, hal, hs]; grind -lia

theorem Cv.plus_p (ha2 : C.a2 = 0) {X1 Y1 Z1 X2 Y2 Z2 u v : Fin p} {P Q : Pt p} (hP : C.on P) (hQ : C.on Q) (h1 : Rp X1 Y1 Z1 P) (h2 : Rp X2 Y2 Z2 Q) (n1 : Z1 ≠ 0) (n2 : Z2 ≠ 0)
    (hu : u = Y2 * Z1 - Y1 * Z2) (hv : v = X2 * Z1 - X1 * Z2) :
    (v = 0 → u ≠ 0 → C.add P Q = .O) ∧ (v = 0 → u = 0 → P = Q) ∧
    (v ≠ 0 → ∀ zz r x : Fin p, zz = Z1 * Z2 → r = v * v * (X1 * Z2) → x = u * u * zz - v * (v * v) - 2 * r →
      Rp (v * x) (u * (r - x) - v * (v * v) * (Y1 * Z2)) (v * (v * v) * zz) (C.add P Q)) := by
  cases P with
  | O => exact absurd h1 n1
  | A x1 y1 => cases Q with
    | O => exact absurd h2 n2
    | A x2 y2 =>
      obtain ⟨_, rfl, rfl⟩ := h1
      obtain ⟨_, rfl, rfl⟩ := h2
      have nz := C.mul_ne n1 n2
      have hv' : v = (x2 - x1) * (Z1 * Z2) := by rw [hv]; grind -lia
      have hu' : u = (y2 - y1) * (Z1 * Z2) := by rw [hu]; grind -lia
      have xx : v = 0 → x1 = x2 := fun e => by
        rw [hv'] at e
        have e : (Z1 * Z2) * (x2 - x1) = 0 := by rw [← e]; grind -lia
        exact (eq_of_sub (C.nz e nz)).symm
      refine ⟨fun e1 e2 => ?_, fun e1 e2 => ?_, fun e zz r x hzz hr hx => ?_⟩
      · have := xx e1
        subst this
        rcases C.eq_neg_or hP hQ with e | e
        · exact absurd (by rw [hu', e]; grind -lia) e2
        · exact if_pos ⟨rfl, e⟩
      · rw [hu'] at e2
        have e2 : (Z1 * Z2) * (y2 - y1) = 0 := by rw [← e2]; grind -lia
        rw [xx e1, eq_of_sub (C.nz e2 nz)]
      · have hne : x1 ≠ x2 := by rintro rfl; exact e (by rw [hv']; grind -lia)
        have hd : ¬ (x1 = x2 ∧ y1 + y2 = 0) := fun z => hne z.1
        obtain ⟨al, sl, ea⟩ := C.sl_exists hP hQ hd
        rw [ea]
        have hal : u = al * v := by
          have := sl.h1
          rw [hu', hv']
          have : y2 - y1 = al * (x2 - x1) := by
            have e : y2 - y1 = -(y1 - y2) := by grind -lia
            rw [e, this]; grind -lia
          rw [this]; grind -lia
        refine ⟨C.mul_ne (C.mul_ne e (C.mul_ne e e)) (by rw [hzz]; exact nz), ?_, ?_⟩
        · simp only [Cv.thx, ha2]; rw [hx, hr, hal, hzz, hv']; grind -lia
        · simp only [Cv.thy, Cv.thx, ha2]; rw [hx, hr, hal, hzz, hv']; grind -lia

theorem Cv.twice_j (ha2 : C.a2 = 0) {X Y Z s m x : Fin p} {P : Pt p} (hP : C.on P) (hR : Rj X Y Z P) (hn : Z ≠ 0) (hY : Y ≠ 0)
    (hs : s = 4 * (X * (Y * Y))) (hm : m = 3 * (X * X) + C.a4 * (Z * Z * (Z * Z))) (hx : x = m * m - (s + s)) :
    Rj x (m * (s - x) - 8 * (Y * Y * (Y * Y))) (2 * (Y * Z)) (C.add P P) := by
  cases P with
  | O => exact absurd hR hn
  | A x0 y =>
    obtain ⟨_, rfl, rfl⟩ := hR
    have hy : y ≠ 0 := by rintro rfl; exact hY (by grind -lia)
    have h2y := C.two_ne hy
    have hi := C.inv_mul _ h2y
    have sl := C.sl_self (x := x0) (al := (3 * (x0 * x0) + 2 * C.a2 * x0 + C.a4) * C.inv (2 * y)) hy (by
      generalize C.inv (2 * y) = i at *
      have : (3 * (x0 * x0) + 2 * C.a2 * x0 + C.a4) * i * (2 * y) = (3 * (x0 * x0) + 2 * C.a2 * x0 + C.a4) * (i * (2 * y)) := by grind -lia
      rw [this, hi]; grind -lia)
    have hal : m = 2 * y * ((3 * (x0 * x0) + 2 * C.a2 * x0 + C.a4) * C.inv (2 * y)) * (Z * Z * (Z * Z)) := by
      have : 2 * y * ((3 * (x0 * x0) + 2 * C.a2 * x0 + C.a4) * C.inv (2 * y)) * (Z * Z * (Z * Z)) = (3 * (x0 * x0) + 2 * C.a2 * x0 + C.a4) * (C.inv (2 * y) * (2 * y)) * (Z * Z * (Z * Z)) := by
        generalize C.inv (2 * y) = i; grind -lia
      rw [this, hi, hm, ha2]; grind -lia
    have hd : ¬ (x0 = x0 ∧ y + y = 0) := fun z => hy (C.nz2 z.2)
    rw [C.add_eq hP hP hd sl]
    generalize (3 * (x0 * x0) + 2 * C.a2 * x0 + C.a4) * C.inv (2 * y) = al at *
    refine ⟨C.two_ne (C.mul_ne (C.mul_ne hy (C.mul_ne hn (C.mul_ne hn hn))) hn), ?_, ?_⟩
    · simp only [Cv.thx, ha2]; rw [hx, hs, hal]; grind -lia
    · simp only [Cv.thy, Cv.thx, ha2]; rw [hx, hs, hal]; grind -lia
theorem Cv.plus_j (ha2 : C.a2 = 0) {X1 Y1 Z1 X2 Y2 Z2 u h s r : Fin p} {P Q : Pt p} (hP : C.on P) (hQ : C.on Q) (h1 : Rj X1 Y1 Z1 P) (h2 : Rj X2 Y2 Z2 Q) (n1 : Z1 ≠ 0) (n2 : Z2 ≠ 0)
    (hu : u = X1 * (Z2 * Z2)) (hh : h = X2 * (Z1 * Z1) - u) (hs : s = Y1 * (Z2 * Z2 * Z2)) (hr : r = Y2 * (Z1 * Z1 * Z1) - s) :
    (h = 0 → r ≠ 0 → C.add P Q = .O) ∧ (h = 0 → r = 0 → P = Q) ∧
    (h ≠ 0 → ∀ v x : Fin p, v = u * (h * h) → x = r * r - h * (h * h) - (v + v) →
      Rj x (r * (v - x) - s * (h * (h * h))) (h * (Z1 * Z2)) (C.add P Q)) := by
  cases P with
  | O => exact absurd h1 n1
  | A x1 y1 => cases Q with
    | O => exact absurd h2 n2
    | A x2 y2 =>
      obtain ⟨_, rfl, rfl⟩ := h1
      obtain ⟨_, rfl, rfl⟩ := h2
      have nz := C.mul_ne n1 n2
      have hh' : h = (x2 - x1) * (Z1 * Z2 * (Z1 * Z2)) := by rw [hh, hu]; grind -lia
      have hr' : r = (y2 - y1) * (Z1 * Z2 * (Z1 * Z2 * (Z1 * Z2))) := by rw [hr, hs]; grind -lia
      have xx : h = 0 → x1 = x2 := fun e => by
        rw [hh'] at e
        have e : (Z1 * Z2 * (Z1 * Z2)) * (x2 - x1) = 0 := by rw [← e]; grind -lia
        exact (eq_of_sub (C.nz e (C.mul_ne nz nz))).symm
      refine ⟨fun e1 e2 => ?_, fun e1 e2 => ?_, fun e v x hv hx => ?_⟩
      · have := xx e1
        subst this
        rcases C.eq_neg_or hP hQ with e | e
        · exact absurd (by rw [hr', e]; grind -lia) e2
        · exact if_pos ⟨rfl, e⟩
      · rw [hr'] at e2
        have e2 : (Z1 * Z2 * (Z1 * Z2 * (Z1 * Z2))) * (y2 - y1) = 0 := by rw [← e2]; grind -lia
        rw [xx e1, eq_of_sub (C.nz e2 (C.mul_ne nz (C.mul_ne nz nz)))]
      · have hne : x1 ≠ x2 := by rintro rfl; exact e (by rw [hh']; grind -lia)
        have hd : ¬ (x1 = x2 ∧ y1 + y2 = 0) := fun z => hne z.1
        obtain ⟨al, sl, ea⟩ := C.sl_exists hP hQ hd
        rw [ea]
        have hal : r = al * (h * (Z1 * Z2)) := by
          have := sl.h1
          rw [hr', hh']
          have : y2 - y1 = al * (x2 - x1) := by
            have e : y2 - y1 = -(y1 - y2) := by grind -lia
            rw [e, this]; grind -lia
          rw [this]; grind -lia
        refine ⟨C.mul_ne e nz, ?_, ?_⟩
        · simp only [Cv.thx, ha2]; rw [hx, hv, hu, hal, hh']; grind -lia
        · simp only [Cv.thy, Cv.thx, ha2]; rw [hx, hv, hs, hu, hal, hh']; grind -lia
end
end Go.EC
