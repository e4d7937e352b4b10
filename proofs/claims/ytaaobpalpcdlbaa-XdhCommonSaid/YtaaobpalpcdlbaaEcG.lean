import Derived.Test.YtaaobpalpcdlbaaEcF
namespace Go.EC
set_option linter.unusedVariables false
set_option maxRecDepth 1000000

abbrev p25 : Nat := 57896044618658097711785492504343953926634992332820282019728792003956564819949
abbrev l25 : Nat := 7237005577332262213973186563042994240857116359379907606001950938285454250989
instance nz25 : NeZero p25 := ⟨by decide⟩
theorem pr25 : Pr p25 := pr_57896044618658097711785492504343953926634992332820282019728792003956564819949
theorem prl25 : Pr l25 := pr_7237005577332262213973186563042994240857116359379907606001950938285454250989
abbrev P5 : Int := 57896044618658097711785492504343953926634992332820282019728792003956564819949
def t5 (a b : Int) : Int := a * b % P5
def a5 (a b : Int) : Int := (a + b) % P5
def s5 (a b : Int) : Int := (a - b) % P5
abbrev Fr := Int × Int
def stI (u : Int) (x y : Fr) : Fr × Fr :=
  let a := a5 x.1 x.2
  let b := s5 x.1 x.2
  let da := t5 (s5 y.1 y.2) a
  let cb := t5 (a5 y.1 y.2) b
  let aa := t5 a a
  let bb := t5 b b
  let e := s5 aa bb
  ((t5 aa bb, t5 e (a5 aa (t5 121665 e))), (t5 (a5 da cb) (a5 da cb), t5 u (t5 (s5 da cb) (s5 da cb))))
def bN (k : Int) (i : Nat) : Nat := k.toNat / 2 ^ i % 2
def ldI (k u : Int) : Nat → Fr × Fr
  | 0 => ((1, 0), (u, 1))
  | n + 1 => if bN k (254 - n) = 1 then ((stI u (ldI k u n).2 (ldI k u n).1).2, (stI u (ldI k u n).2 (ldI k u n).1).1) else stI u (ldI k u n).1 (ldI k u n).2
def lxI (k u : Int) : Int := t5 (ldI k u 255).1.1 ((ldI k u 255).1.2 ^ (p25 - 2) % P5)

abbrev f5 (x : Int) : Fin p25 := toF p25 x
theorem f5_t (a b : Int) : f5 (t5 a b) = f5 a * f5 b := by rw [← toF_mul]; exact toF_mod _
theorem f5_a (a b : Int) : f5 (a5 a b) = f5 a + f5 b := by rw [← toF_add]; exact toF_mod _
theorem f5_s (a b : Int) : f5 (s5 a b) = f5 a - f5 b := by rw [← toF_sub]; exact toF_mod _
abbrev inP5 (x : Int) : Prop := 0 ≤ x ∧ x < P5
theorem in5 (x : Int) : inP5 (x % P5) := ⟨Int.emod_nonneg _ (by decide), Int.emod_lt_of_pos _ (by decide)⟩
theorem f5_zero {x : Int} (h : inP5 x) : f5 x = 0 ↔ x = 0 := toF_eq_zero h
def C25 : Cv p25 where
  inv := pinv
  a2 := 486662
  a4 := 1
  a6 := 0
  inv_mul := pinv_mul pr25
  two := by decide +kernel
  ns := fun x h => by
    intro k
    have q : ∀ a b : Fin p25, a * b = 0 → a ≠ 0 → b = 0 := fun a b h ha => by
      have e : pinv a * (a * b) = (pinv a * a) * b := by grind -lia
      rw [h, pinv_mul pr25 a ha] at e
      grind -lia
    by_cases hx : x = 0
    · subst hx; exact one_ne_zero pr25 (by rw [← k]; grind -lia)
    · have h1 : x * (x * x + 486662 * x + 1) = 0 := by rw [← h]; grind -lia
      have h2 := q _ _ h1 hx
      have h3 : x * (2 * x + 486662) = 0 := by
        have : x * (2 * x + 486662) = (3 * (x * x) + 2 * 486662 * x + 1) - (x * x + 486662 * x + 1) := by grind -lia
        rw [this, k, h2]; grind -lia
      have h4 := q _ _ h3 hx
      have h5 : (486662 * 486662 - 4 : Fin p25) = 0 := by
        have : (486662 * 486662 - 4 : Fin p25) = (2 * x + 486662) * (486662 + 2 * (486662 : Fin p25) - 2 * x) - 4 * (x * x + 486662 * x + 1) + (4 * 486662 * x + 8 * (x * x)) - 2 * 486662 * (2 * x + 486662) := by grind -lia
        rw [this, h4, h2]
        have : (4 * 486662 * x + 8 * (x * x) : Fin p25) = 4 * x * (2 * x + 486662) := by grind -lia
        rw [this, h4]; grind -lia
      exact absurd h5 (by decide +kernel)
theorem n1_25 : C25.a2 + 2 ≠ 0 := by decide +kernel
theorem n2_25 : C25.a2 - 2 ≠ 0 := by decide +kernel
theorem c25 : 4 * f5 121665 = C25.a2 - 2 := by decide +kernel
def Rs (x : Fr) (P : Pt p25) : Prop := inP5 x.1 ∧ inP5 x.2 ∧ Rm (f5 x.1) (f5 x.2) P
theorem stI_1 {u : Int} {x y : Fr} {P : Pt p25} (hP : C25.on P) (h : Rs x P) : Rs (stI u x y).1 (C25.add P P) := by
  refine ⟨in5 _, in5 _, ?_⟩
  have := C25.dbl_m rfl rfl n1_25 n2_25 c25 hP h.2.2 rfl rfl rfl
  simp only [stI, f5_t, f5_a, f5_s]
  exact this
theorem stI_2 {u : Int} {x y : Fr} {v : Fin p25} {Q R : Pt p25} (hQ : C25.on Q) (hR : C25.on R) (hP : C25.on (.A (f5 u) v)) (hu : f5 u ≠ 0) (hD : C25.add Q (.A (f5 u) v) = R) (h : Rs x Q) (k : Rs y R) : Rs (stI u x y).2 (C25.add Q R) := by
  refine ⟨in5 _, in5 _, ?_⟩
  have := C25.dif_m rfl rfl n1_25 n2_25 c25 hQ hR hP hu hD h.2.2 k.2.2 rfl rfl
  simp only [stI, f5_t, f5_a, f5_s]
  exact this
theorem ldI_ok {k u : Int} {v : Fin p25} (hu : inP5 u) (u0 : f5 u ≠ 0) (hk : k.toNat < 2 ^ 255) (hP : C25.on (.A (f5 u) v)) : ∀ n, n ≤ 255 →
    Rs (ldI k u n).1 (C25.mul (k.toNat / 2 ^ (255 - n)) (.A (f5 u) v)) ∧ Rs (ldI k u n).2 (C25.mul (k.toNat / 2 ^ (255 - n) + 1) (.A (f5 u) v))
  | 0, _ => by
    have e : k.toNat / 2 ^ (255 - 0) = 0 := Nat.div_eq_of_lt hk
    rw [e, C25.mul_one]
    have one : f5 1 ≠ 0 := by decide +kernel
    exact ⟨⟨(by decide : inP5 1), (by decide : inP5 0), rfl, one⟩, hu, (by decide : inP5 1), one, by show f5 u = f5 u * f5 1; rw [show f5 1 = 1 from rfl]; grind -lia⟩
  | n + 1, hn => by
    obtain ⟨h1, h2⟩ := ldI_ok hu u0 hk hP n (by omega)
    have e2 : k.toNat / 2 ^ (255 - n) = k.toNat / 2 ^ (254 - n) / 2 := by
      rw [Nat.div_div_eq_div_mul, ← Nat.pow_succ, show (254 - n).succ = 255 - n by omega]
    have e3 : 255 - (n + 1) = 254 - n := by omega
    rw [e3]
    generalize hm : k.toNat / 2 ^ (255 - n) = m at *
    generalize hw : k.toNat / 2 ^ (254 - n) = w at *
    have hb : bN k (254 - n) = w % 2 := by unfold bN; rw [hw]
    have o1 := C25.on_mul hP m
    have o2 := C25.on_mul hP (m + 1)
    simp only [ldI]
    by_cases c : w % 2 = 1
    · rw [if_pos (by rw [hb]; exact c)]
      have hPn : C25.on (.A (f5 u) (-v)) := C25.on_neg hP
      have back : C25.add (C25.mul (m + 1) (.A (f5 u) v)) (.A (f5 u) (-v)) = C25.mul m (.A (f5 u) v) := by
        show C25.add (C25.add (C25.mul m (.A (f5 u) v)) (.A (f5 u) v)) (Pt.A (f5 u) v).neg = _
        rw [C25.add_assoc o1 hP (C25.on_neg hP), C25.add_neg, C25.add_O]
      have q1 := stI_1 (u := u) (y := (ldI k u n).1) o2 h2
      have q2 := stI_2 (u := u) o2 o1 hPn u0 back h2 h1
      rw [← C25.mul_add hP] at q1 q2
      rw [show w = m + 1 + m by omega, show m + 1 + m + 1 = m + 1 + (m + 1) by omega]
      exact ⟨q2, q1⟩
    · rw [if_neg (by rw [hb]; exact c)]
      have q1 := stI_1 (u := u) (y := (ldI k u n).2) o1 h1
      have q2 := stI_2 (u := u) o1 o2 hP u0 rfl h1 h2
      rw [← C25.mul_add hP] at q1 q2
      rw [show w = m + m by omega, show m + m + 1 = m + (m + 1) by omega]
      exact ⟨q1, q2⟩
def xc : Pt p25 → Fin p25
  | .O => 0
  | .A x _ => x
theorem lxI_in (k u : Int) : inP5 (lxI k u) := in5 _
theorem f5_mul (a b : Int) : f5 (a * b) = f5 a * f5 b := toF_mul a b
theorem f5_mod (a : Int) : f5 (a % P5) = f5 a := toF_mod a
theorem f5_pow (x : Int) : ∀ n, f5 (x ^ n) = fpow (f5 x) n
  | 0 => by rw [Int.pow_zero]; rfl
  | n + 1 => by rw [Int.pow_succ, f5_mul, f5_pow x n]; rfl
theorem lxI_ok {k u : Int} {v : Fin p25} (hu : inP5 u) (u0 : f5 u ≠ 0) (hk : k.toNat < 2 ^ 255) (hP : C25.on (.A (f5 u) v)) : f5 (lxI k u) = xc (C25.mul k.toNat (.A (f5 u) v)) := by
  have h := (ldI_ok hu u0 hk hP 255 (Nat.le_refl _)).1
  rw [Nat.sub_self, Nat.pow_zero, Nat.div_one] at h
  unfold lxI
  rw [f5_t, f5_mod, f5_pow, pinv_pow pr25]
  generalize ldI k u 255 = s at *
  obtain ⟨_, _, h⟩ := h
  generalize C25.mul k.toNat (.A (f5 u) v) = Q at *
  cases Q with
  | O =>
    obtain ⟨hz, _⟩ := h
    rw [hz]
    have : pinv (0 : Fin p25) = 0 := by rw [← pinv_pow pr25]; exact fpow_zero (p25 - 3)
    rw [this]; show _ = (0 : Fin p25); grind -lia
  | A x y =>
    obtain ⟨hz, hx⟩ := h
    rw [hx]
    have := pinv_mul pr25 _ hz
    show _ = x
    generalize f5 s.1.2 = z at *
    generalize pinv z = i at *
    grind -lia
def v9 : Int := 14781619447589544791020593568409986887264606134616475288964881837755586237401
def B25 : Pt p25 := .A (f5 9) (f5 v9)
theorem B_on : C25.on B25 := by
  show f5 v9 * f5 v9 = f5 9 * f5 9 * f5 9 + 486662 * (f5 9 * f5 9) + 1 * f5 9 + 0
  decide +kernel
theorem f9 : f5 9 ≠ 0 := by decide +kernel
theorem lB_z : (ldI (l25 : Int) 9 255).1.2 = 0 := by decide +kernel
theorem ldI_O {k u : Int} {v : Fin p25} (hu : inP5 u) (u0 : f5 u ≠ 0) (hk : k.toNat < 2 ^ 255) (hP : C25.on (.A (f5 u) v)) (hz : (ldI k u 255).1.2 = 0) : C25.mul k.toNat (.A (f5 u) v) = .O := by
  have h := (ldI_ok hu u0 hk hP 255 (Nat.le_refl _)).1
  rw [Nat.sub_self, Nat.pow_zero, Nat.div_one] at h
  generalize C25.mul k.toNat (.A (f5 u) v) = Q at *
  obtain ⟨_, _, h⟩ := h
  rw [hz] at h
  cases Q with
  | O => rfl
  | A x y => exact absurd rfl h.1
theorem u9 : inP5 9 := by decide
theorem l25_lt : ((l25 : Int)).toNat < 2 ^ 255 := by decide +kernel
theorem l25_nat : ((l25 : Int)).toNat = l25 := rfl
theorem lB : C25.mul l25 B25 = .O := l25_nat ▸ ldI_O u9 f9 l25_lt B_on lB_z
theorem l25_2 : ¬ l25 ∣ 2 := by decide +kernel
theorem B_ne : B25 ≠ .O := by intro z; cases z
theorem B_mul {m : Nat} (h : ¬ l25 ∣ m) : ∃ x y, C25.mul m B25 = .A x y ∧ x ≠ 0 := C25.mul_ne0 rfl B_on prl25 lB B_ne l25_2 h
def Cl (k : Int) : Prop := 0 ≤ k ∧ k < 2 ^ 255 ∧ 2 ^ 254 ≤ k ∧ k % 8 = 0
theorem Cl.nd {k : Int} (h : Cl k) : ¬ l25 ∣ k.toNat := by
  obtain ⟨h0, h1, h2, h3⟩ := h
  obtain ⟨m, hm⟩ : ∃ m : Nat, k.toNat = 8 * m := ⟨k.toNat / 8, by omega⟩
  rw [hm]
  intro z
  rcases prl25.euclid z with z | z
  · exact absurd z (by decide +kernel)
  · have := Nat.le_of_dvd (by omega) z
    have e : l25 = 7237005577332262213973186563042994240857116359379907606001950938285454250989 := rfl
    rw [e] at this
    omega
theorem Cl.lt {k : Int} (h : Cl k) : k.toNat < 2 ^ 255 := by have := h.2.1; have := h.1; omega
theorem lx_B {k : Int} (h : Cl k) : ∃ y, C25.mul k.toNat B25 = .A (f5 (lxI k 9)) y ∧ f5 (lxI k 9) ≠ 0 := by
  obtain ⟨x, y, e, hx⟩ := B_mul h.nd
  have := lxI_ok (k := k) (u := 9) (v := f5 v9) (by decide) f9 h.lt B_on
  have eB : C25.mul k.toNat (.A (f5 9) (f5 v9)) = .A x y := e
  rw [eB] at this
  have ex : f5 (lxI k 9) = x := this
  exact ⟨y, by rw [ex]; exact e, by rw [ex]; exact hx⟩
theorem common {a b : Int} (ha : Cl a) (hb : Cl b) : lxI a (lxI b 9) = lxI b (lxI a 9) ∧ lxI a (lxI b 9) ≠ 0 := by
  have key : ∀ {a b : Int}, Cl a → Cl b → f5 (lxI a (lxI b 9)) = xc (C25.mul (a.toNat * b.toNat) B25) := by
    intro a b ha hb
    obtain ⟨y, e, hx⟩ := lx_B hb
    have on := C25.on_mul B_on b.toNat
    rw [e] at on
    rw [lxI_ok (lxI_in _ _) hx ha.lt on, ← e, C25.mul_mul B_on]
  have k1 := key ha hb
  have k2 := key hb ha
  rw [Nat.mul_comm, ← k1] at k2
  refine ⟨(toF_inj (lxI_in _ _) (lxI_in _ _) k2).symm, fun z => ?_⟩
  have nd : ¬ l25 ∣ a.toNat * b.toNat := fun z => by
    rcases prl25.euclid z with z | z
    · exact ha.nd z
    · exact hb.nd z
  obtain ⟨x, y, e, hx⟩ := B_mul nd
  rw [e, z] at k1
  exact hx k1.symm
theorem pub_on {k : Int} (h : Cl k) : ∃ y : Fin p25, y * y = f5 (lxI k 9) * f5 (lxI k 9) * f5 (lxI k 9) + 486662 * (f5 (lxI k 9) * f5 (lxI k 9)) + 1 * f5 (lxI k 9) + 0 := by
  obtain ⟨y, e, hx⟩ := lx_B h
  have on := C25.on_mul B_on k.toNat
  rw [e] at on
  exact ⟨y, on⟩
theorem euler {x : Int} (hx : inP5 x) {y : Fin p25} (h : y * y = f5 x) : x = 0 ∨ x ^ ((p25 - 1) / 2) % P5 = 1 := by
  by_cases z : y = 0
  · left
    refine (f5_zero hx).1 ?_
    rw [← h, z]; grind -lia
  · right
    have e : fpow (f5 x) ((p25 - 1) / 2) = 1 := by
      have : f5 x = fpow y 2 := by rw [← h]; simp only [fpow]; grind -lia
      rw [this, ← fpow_mul, show 2 * ((p25 - 1) / 2) = p25 - 1 by decide +kernel]
      exact fpow_p1 pr25 z
    rw [← f5_pow] at e
    have := eq_of_toF (p := p25) (x := x ^ ((p25 - 1) / 2)) (y := 1) (by rw [show toF p25 (x ^ ((p25 - 1) / 2)) = 1 from e]; rfl)
    exact this
end Go.EC
