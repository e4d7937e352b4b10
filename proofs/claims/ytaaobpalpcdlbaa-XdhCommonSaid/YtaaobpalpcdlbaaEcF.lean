import Derived.Test.YtaaobpalpcdlbaaEcD
namespace Go.EC
set_option linter.unusedVariables false
def Rm {p : Nat} [NeZero p] (X Z : Fin p) : Pt p → Prop
  | .O => Z = 0 ∧ X ≠ 0
  | .A x y => Z ≠ 0 ∧ X = x * Z
section
variable {p : Nat} [NeZero p] (C : Cv p)
include C
theorem Cv.sq_ne {a : Fin p} (ha : a ≠ 0) : a * a ≠ 0 := C.mul_ne ha ha
theorem Cv.four_ne {a : Fin p} (ha : a ≠ 0) : 4 * a ≠ 0 := by
  have := C.two_ne (C.two_ne ha)
  intro h; apply this; rw [← h]; grind -lia
theorem Cv.sq_one (h4 : C.a4 = 1) (h6 : C.a6 = 0) (n1 : C.a2 + 2 ≠ 0) (n2 : C.a2 - 2 ≠ 0) {x y : Fin p} (hP : C.on (.A x y)) (hx : x * x - 1 = 0) : y ≠ 0 := by
  intro hy
  simp only [Cv.on, h4, h6, hy] at hP
  have e : (C.a2 + 2) * (C.a2 - 2) = 0 := by
    generalize C.a2 = a at *
    grind -lia
  exact n2 (C.nz e n1)
theorem Cv.dbl_m (h4 : C.a4 = 1) (h6 : C.a6 = 0) (n1 : C.a2 + 2 ≠ 0) (n2 : C.a2 - 2 ≠ 0) {X Z A B E c : Fin p} (hc : 4 * c = C.a2 - 2) {P : Pt p} (hP : C.on P) (hR : Rm X Z P)
    (hA : A = (X + Z) * (X + Z)) (hB : B = (X - Z) * (X - Z)) (hE : E = A - B) : Rm (A * B) (E * (A + c * E)) (C.add P P) := by
  have eE : E = 4 * (X * Z) := by rw [hE, hA, hB]; grind -lia
  have eX : A * B = (X * X - Z * Z) * (X * X - Z * Z) := by rw [hA, hB]; grind -lia
  have eZ : E * (A + c * E) = 4 * (X * Z * (X * X + C.a2 * (X * Z) + Z * Z)) := by
    rw [eE, hA]
    have : c * (4 * (X * Z)) = (C.a2 - 2) * (X * Z) := by rw [← hc]; grind -lia
    rw [this]; grind -lia
  rw [eX, eZ]
  cases P with
  | O =>
    obtain ⟨hz, hx⟩ := hR
    rw [C.O_add]
    subst hz
    refine ⟨by grind -lia, ?_⟩
    have := C.sq_ne (C.sq_ne hx)
    intro h; apply this; rw [← h]; grind -lia
  | A x y =>
    obtain ⟨hz, hx⟩ := hR
    subst hx
    have hP' := hP
    simp only [Cv.on, h4, h6] at hP
    have e1 : 4 * (x * Z * Z * (x * Z * (x * Z) + C.a2 * (x * Z * Z) + Z * Z)) = Z * Z * (Z * Z) * (4 * (y * y)) := by rw [hP]; grind -lia
    have e2 : (x * Z * (x * Z) - Z * Z) * (x * Z * (x * Z) - Z * Z) = Z * Z * (Z * Z) * ((x * x - 1) * (x * x - 1)) := by grind -lia
    rw [e1, e2]
    have z4 := C.sq_ne (C.sq_ne hz)
    by_cases hy : y = 0
    · rw [C.add_same hy]
      subst hy
      refine ⟨by grind -lia, ?_⟩
      have nx : x * x - 1 ≠ 0 := fun h => C.sq_one h4 h6 n1 n2 hP' h rfl
      exact C.mul_ne z4 (C.sq_ne nx)
    · have hd : ¬ (x = x ∧ y + y = 0) := fun h => hy (C.nz2 h.2)
      obtain ⟨al, s, e⟩ := C.sl_exists hP' hP' hd
      rw [e]
      refine ⟨C.mul_ne z4 (C.four_ne (C.sq_ne hy)), ?_⟩
      have s2 := s.h2
      rw [h4] at s2
      unfold Cv.thx
      have k : (x * x - 1) * (x * x - 1) = (al * al - C.a2 - x - x) * (4 * (y * y)) := by
        have k1 : al * al * (4 * (y * y)) = (al * (y + y)) * (al * (y + y)) := by grind -lia
        have k2 : (al * al - C.a2 - x - x) * (4 * (y * y)) = al * al * (4 * (y * y)) - (C.a2 + x + x) * (4 * (y * y)) := by grind -lia
        rw [k2, k1, s2, hP]
        generalize C.a2 = a
        grind -lia
      rw [k]; grind -lia
theorem Cv.one_ne : (1 : Fin p) ≠ 0 := by
  intro h
  apply C.two
  have : (2 : Fin p) = 2 * 1 := by grind -lia
  rw [this, h]; grind -lia
theorem Cv.dif_m (h4 : C.a4 = 1) (h6 : C.a6 = 0) (n1 : C.a2 + 2 ≠ 0) (n2 : C.a2 - 2 ≠ 0) {X1 Z1 X2 Z2 u v d e c : Fin p} (hc : 4 * c = C.a2 - 2) {Q R : Pt p} (hQ : C.on Q) (hR : C.on R) (hP : C.on (.A u v)) (hu : u ≠ 0) (hD : C.add Q (.A u v) = R)
    (r1 : Rm X1 Z1 Q) (r2 : Rm X2 Z2 R) (hd : d = (X2 - Z2) * (X1 + Z1)) (he : e = (X2 + Z2) * (X1 - Z1)) : Rm ((d + e) * (d + e)) (u * ((d - e) * (d - e))) (C.add Q R) := by
  have eX : (d + e) * (d + e) = 4 * ((X1 * X2 - Z1 * Z2) * (X1 * X2 - Z1 * Z2)) := by rw [hd, he]; grind -lia
  have eZ : u * ((d - e) * (d - e)) = u * (4 * ((X2 * Z1 - X1 * Z2) * (X2 * Z1 - X1 * Z2))) := by rw [hd, he]; grind -lia
  rw [eX, eZ]
  cases Q with
  | O =>
    rw [C.O_add] at hD
    subst hD
    obtain ⟨z1, x1⟩ := r1
    obtain ⟨z2, x2⟩ := r2
    subst z1; subst x2
    rw [C.O_add]
    have := C.mul_ne hu (C.four_ne (C.sq_ne (C.mul_ne x1 z2)))
    refine ⟨fun h => this ?_, by grind -lia⟩
    rw [← h]; grind -lia
  | A x1 y1 =>
    obtain ⟨z1, e1⟩ := r1
    subst e1
    cases R with
    | O =>
      obtain ⟨z2, x2⟩ := r2
      subst z2
      rw [C.add_O]
      have hn := C.neg_unique hQ hP hD
      simp only [Pt.neg, Pt.A.injEq] at hn
      have hx : u = x1 := hn.1
      subst hx
      have := C.mul_ne hu (C.four_ne (C.sq_ne (C.mul_ne x2 z1)))
      refine ⟨fun h => this ?_, by grind -lia⟩
      rw [← h]; grind -lia
    | A x2 y2 =>
      obtain ⟨z2, e2⟩ := r2
      subst e2
      have g1 : u * (4 * ((x2 * Z2 * Z1 - x1 * Z1 * Z2) * (x2 * Z2 * Z1 - x1 * Z1 * Z2))) = 4 * (Z1 * Z2 * (Z1 * Z2)) * (u * ((x1 - x2) * (x1 - x2))) := by grind -lia
      have g2 : 4 * ((x1 * Z1 * (x2 * Z2) - Z1 * Z2) * (x1 * Z1 * (x2 * Z2) - Z1 * Z2)) = 4 * (Z1 * Z2 * (Z1 * Z2)) * ((x1 * x2 - 1) * (x1 * x2 - 1)) := by grind -lia
      rw [g1, g2]
      have zz := C.four_ne (C.sq_ne (C.mul_ne z1 z2))
      by_cases hx : x1 = x2
      · subst hx
        have hne : ¬ (y1 = y2) := by
          intro h; subst h
          have : C.add (.A x1 y1) (.A u v) = C.add (.A x1 y1) .O := by rw [hD, C.add_O]
          have := C.add_left hQ hP C.on_O this
          cases this
        have hy : y1 + y2 = 0 := (C.eq_neg_or hQ hR).resolve_left hne
        have hs : C.add (.A x1 y1) (.A x1 y2) = .O := if_pos ⟨rfl, hy⟩
        rw [hs]
        refine ⟨by grind -lia, C.mul_ne zz ?_⟩
        -- twice Q is the other one of P
        have hR' : Pt.A x1 y2 = (Pt.A x1 y1).neg := C.neg_unique hQ hR hs
        have t1 : C.add (.A x1 y1) (C.add (.A x1 y1) (.A u v)) = .O := by rw [hD, hs]
        rw [← C.add_assoc hQ hQ hP] at t1
        have t2 : Pt.A u v = (C.add (.A x1 y1) (.A x1 y1)).neg := C.neg_unique (C.on_add hQ hQ) hP t1
        have one := C.one_ne
        have dm := C.dbl_m h4 h6 n1 n2 (X := x1) (Z := 1) hc hQ ⟨one, by grind -lia⟩ rfl rfl rfl
        have t3 : C.add (.A x1 y1) (.A x1 y1) = .A u (-v) := by
          have := congrArg Pt.neg t2
          rw [Pt.neg_neg] at this
          rw [← this]; rfl
        rw [t3] at dm
        obtain ⟨m1, m2⟩ := dm
        have m3 : (x1 + 1) * (x1 + 1) * ((x1 - 1) * (x1 - 1)) = (x1 * x1 - 1) * (x1 * x1 - 1) := by grind -lia
        rw [m3] at m2
        rw [m2]
        exact C.mul_ne hu m1
      · have nx : x1 - x2 ≠ 0 := fun h => hx (eq_of_sub h)
        have hd1 : ¬ (x1 = x2 ∧ y1 + y2 = 0) := fun h => hx h.1
        obtain ⟨al, s, ea⟩ := C.sl_exists hQ hR hd1
        rw [ea]
        refine ⟨C.mul_ne zz (C.mul_ne hu (C.sq_ne nx)), ?_⟩
        -- the difference
        have hQn := C.on_neg hQ
        have hdf : C.add (Pt.A x1 y1).neg (.A x2 y2) = .A u v := by rw [← hD]; exact C.neg_add_cancel hQ hP
        have hd2 : ¬ (x1 = x2 ∧ -y1 + y2 = 0) := fun h => hx h.1
        obtain ⟨be, t, eb⟩ := C.sl_exists (x1 := x1) (y1 := -y1) hQn hR hd2
        have eb' : C.add (Pt.A x1 y1).neg (.A x2 y2) = .A (C.thx x1 x2 be) (C.thy x1 (-y1) x2 be) := eb
        rw [hdf] at eb'
        have hu' : u = C.thx x1 x2 be := by cases eb'; rfl
        have a1 := s.h1
        have b1 := t.h1
        simp only [Cv.on, h4, h6] at hQ hR
        unfold Cv.thx at hu' ⊢
        have D0 := C.sq_ne nx
        have key : (x1 - x2) * (x1 - x2) * ((x1 * x2 - 1) * (x1 * x2 - 1)) = (x1 - x2) * (x1 - x2) * ((al * al - C.a2 - x1 - x2) * (u * ((x1 - x2) * (x1 - x2)))) := by
          have q1 : (x1 - x2) * (x1 - x2) * (al * al - C.a2 - x1 - x2) = (y1 - y2) * (y1 - y2) - (C.a2 + x1 + x2) * ((x1 - x2) * (x1 - x2)) := by rw [a1]; grind -lia
          have q2 : u * ((x1 - x2) * (x1 - x2)) = (-y1 - y2) * (-y1 - y2) - (C.a2 + x1 + x2) * ((x1 - x2) * (x1 - x2)) := by rw [hu', b1]; grind -lia
          have q3 : (x1 - x2) * (x1 - x2) * ((al * al - C.a2 - x1 - x2) * (u * ((x1 - x2) * (x1 - x2)))) = ((x1 - x2) * (x1 - x2) * (al * al - C.a2 - x1 - x2)) * (u * ((x1 - x2) * (x1 - x2))) := by grind -lia
          rw [q3, q1, q2]
          have q4 : ((y1 - y2) * (y1 - y2) - (C.a2 + x1 + x2) * ((x1 - x2) * (x1 - x2))) * ((-y1 - y2) * (-y1 - y2) - (C.a2 + x1 + x2) * ((x1 - x2) * (x1 - x2))) = (y1 * y1 - y2 * y2) * (y1 * y1 - y2 * y2) - 2 * (C.a2 + x1 + x2) * ((x1 - x2) * (x1 - x2)) * (y1 * y1 + y2 * y2) + (C.a2 + x1 + x2) * (C.a2 + x1 + x2) * ((x1 - x2) * (x1 - x2)) * ((x1 - x2) * (x1 - x2)) := by grind -lia
          rw [q4, hQ, hR]
          generalize C.a2 = a
          grind -lia
        have := C.cancel D0 key
        rw [this]; grind -lia
theorem Cv.mul_ne0 (h6 : C.a6 = 0) {G : Pt p} {l m : Nat} (hG : C.on G) (hl : Pr l) (hO : C.mul l G = .O) (h0 : G ≠ .O) (l2 : ¬ l ∣ 2) (h : ¬ l ∣ m) : ∃ x y, C.mul m G = .A x y ∧ x ≠ 0 := by
  have hd : ∀ i, C.mul i G = .O → l ∣ i := fun i hi => C.ord hG hl hO h0 hi
  have on := C.on_mul hG m
  have hdm := hd m
  have hdd : C.add (C.mul m G) (C.mul m G) = .O → l ∣ m + m := fun z => hd _ (by rw [C.mul_add hG]; exact z)
  generalize C.mul m G = Q at *
  cases Q with
  | O => exact absurd (hdm rfl) h
  | A x y =>
    refine ⟨x, y, rfl, ?_⟩
    intro hx
    subst hx
    simp only [Cv.on, h6] at on
    have hy2 : y * y = 0 := by rw [on]; grind -lia
    have hy0 : y = 0 := by
      by_cases c : y = 0
      · exact c
      · exact C.nz hy2 c
    have h2 : l ∣ m * 2 := by rw [Nat.mul_two]; exact hdd (C.add_same hy0)
    rcases hl.euclid h2 with z | z
    · exact h z
    · exact l2 z
end
end Go.EC
