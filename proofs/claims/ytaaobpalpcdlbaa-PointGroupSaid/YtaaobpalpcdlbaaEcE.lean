import Derived.Test.YtaaobpalpcdlbaaEcD
namespace Go.EC
set_option linter.unusedVariables false

abbrev p256 : Nat := 115792089210356248762697446949407573530086143415290314195533631308867097853951
abbrev n256 : Nat := 115792089210356248762697446949407573529996955224135760342422259061068512044369
def b256 : Nat := 41058363725152142129326129780047268409114441015993725554835256314039467401291
instance nz256 : NeZero p256 := ⟨by decide⟩
theorem pr256 : Pr p256 := pr_115792089210356248762697446949407573530086143415290314195533631308867097853951
theorem prn256 : Pr n256 := pr_115792089210356248762697446949407573529996955224135760342422259061068512044369

abbrev Tri := Nat × Nat × Nat
def tm (t u : Tri) : Tri :=
  ((t.1 * u.1 + (p256 - b256) * (t.2.1 * u.2.2 + t.2.2 * u.2.1)) % p256,
   (t.1 * u.2.1 + t.2.1 * u.1 + 3 * (t.2.1 * u.2.2 + t.2.2 * u.2.1) + (p256 - b256) * (t.2.2 * u.2.2)) % p256,
   (t.1 * u.2.2 + t.2.1 * u.2.1 + t.2.2 * u.1 + 3 * (t.2.2 * u.2.2)) % p256)
def tp : Nat → Tri → Nat → Tri → Tri
  | 0, _, _, o => o
  | f + 1, a, e, o => if e = 0 then o else tp f (tm a a) (e / 2) (if e % 2 = 1 then tm o a else o)
abbrev oN (n : Nat) : Fin p256 := Fin.ofNat p256 n
theorem oN_add (a b : Nat) : oN (a + b) = oN a + oN b := by
  have := toF_add (p := p256) a b
  rw [← Int.natCast_add, toF_natCast, toF_natCast, toF_natCast] at this; exact this
theorem oN_mul (a b : Nat) : oN (a * b) = oN a * oN b := by
  have := toF_mul (p := p256) a b
  rw [← Int.natCast_mul, toF_natCast, toF_natCast, toF_natCast] at this; exact this
theorem oN_mod (a : Nat) : oN (a % p256) = oN a := by
  apply Fin.ext
  show a % p256 % p256 = a % p256
  rw [Nat.mod_mod]
theorem oN_negb : oN (p256 - b256) = -oN b256 := by
  have : oN (p256 - b256) + oN b256 = 0 := by
    rw [← oN_add, show p256 - b256 + b256 = p256 by decide]
    apply Fin.ext; show p256 % p256 = 0; exact Nat.mod_self _
  generalize oN (p256 - b256) = x at *
  generalize oN b256 = y at *
  grind -lia
def ev (t : Tri) (r : Fin p256) : Fin p256 := oN t.1 + oN t.2.1 * r + oN t.2.2 * (r * r)
theorem oN3 : oN 3 = 3 := rfl
theorem ev_id {a0 a1 a2 b0 b1 b2 r B : Fin p256} (h : r * r * r = 3 * r - B) :
    a0 * b0 + -B * (a1 * b2 + a2 * b1) + (a0 * b1 + a1 * b0 + 3 * (a1 * b2 + a2 * b1) + -B * (a2 * b2)) * r + (a0 * b2 + a1 * b1 + a2 * b0 + 3 * (a2 * b2)) * (r * r) =
    (a0 + a1 * r + a2 * (r * r)) * (b0 + b1 * r + b2 * (r * r)) := by
  have e : (a0 + a1 * r + a2 * (r * r)) * (b0 + b1 * r + b2 * (r * r)) = a0 * b0 + (a0 * b1 + a1 * b0) * r + (a0 * b2 + a1 * b1 + a2 * b0) * (r * r) + (a1 * b2 + a2 * b1) * (r * r * r) + a2 * b2 * ((r * r * r) * r) := by grind -lia
  rw [e, h]; grind -lia
theorem ev_tm {r : Fin p256} (h : r * r * r = 3 * r - oN b256) (t u : Tri) : ev (tm t u) r = ev t r * ev u r := by
  simp only [ev, tm, oN_mod, oN_add, oN_mul, oN_negb, oN3]
  exact ev_id h
theorem ev_tp {r : Fin p256} (h : r * r * r = 3 * r - oN b256) : ∀ (f : Nat) (a : Tri) (e : Nat) (o : Tri), e < 2 ^ f → ev (tp f a e o) r = ev o r * fpow (ev a r) e
  | 0, a, e, o, he => by
    have : e = 0 := by simpa using he
    subst this; simp only [tp, fpow]; grind -lia
  | f + 1, a, e, o, he => by
    simp only [tp]
    split
    · rename_i h0; subst h0; simp only [fpow]; grind -lia
    · rw [ev_tp h f _ _ _ (by rw [Nat.pow_succ] at he; omega), ev_tm h]
      have e2 : ev a r * ev a r = fpow (ev a r) 2 := by simp only [fpow]; grind -lia
      rw [e2, ← fpow_mul]
      split
      · rename_i h1
        rw [ev_tm h]
        have : fpow (ev a r) e = ev a r * fpow (ev a r) (2 * (e / 2)) := by
          have := fpow_add (ev a r) 1 (2 * (e / 2))
          rw [show 1 + 2 * (e / 2) = e by omega] at this
          rw [this]
          have e1 : fpow (ev a r) 1 = ev a r := by simp only [fpow]; grind -lia
          rw [e1]
        rw [this]; grind -lia
      · rename_i h1
        rw [show 2 * (e / 2) = e by omega]
def wit : Tri := (66434390973925144466073271287821796038003695194169110494110089305650096453661, 12402202686218762177567235911775779164004716598278868847786114277539554646091, 24678849118215552148312087830792888746041224110560601850711771001608500700145)
def winv : Tri := (76626890310466861426869089647039036757962535851890885406097439786770458211455, 74462945259064871768191128030512052509059297803194871526163573358218695456204, 34768139465301476436978405170953382516735956999154666452188405812258086013549)
theorem tp_wit : tp 256 (0, 1, 0) p256 (1, 0, 0) = (wit.1, wit.2.1 + 1, wit.2.2) := by decide +kernel
theorem wit_inv : tm wit winv = (1, 0, 0) := by decide +kernel
theorem no_root (r : Fin p256) : r * r * r ≠ 3 * r - oN b256 := by
  intro h
  have e1 := ev_tp h 256 (0, 1, 0) p256 (1, 0, 0) (by decide +kernel)
  have er : ev (0, 1, 0) r = r := by
    show oN 0 + oN 1 * r + oN 0 * (r * r) = r
    rw [show oN 0 = 0 from rfl, show oN 1 = 1 from rfl]; grind -lia
  have eo : ev (1, 0, 0) r = 1 := by
    show oN 1 + oN 0 * r + oN 0 * (r * r) = 1
    rw [show oN 0 = 0 from rfl, show oN 1 = 1 from rfl]; grind -lia
  rw [tp_wit, er, eo, fpow_p pr256] at e1
  have e2 : ev wit r = 0 := by
    have : ev (wit.1, wit.2.1 + 1, wit.2.2) r = ev wit r + r := by
      show oN wit.1 + oN (wit.2.1 + 1) * r + oN wit.2.2 * (r * r) = oN wit.1 + oN wit.2.1 * r + oN wit.2.2 * (r * r) + r
      rw [oN_add, show oN 1 = 1 from rfl]; grind -lia
    rw [this] at e1
    grind -lia
  have e3 := ev_tm h wit winv
  rw [wit_inv, e2, eo] at e3
  exact one_ne_zero pr256 (by rw [e3]; grind -lia)

theorem two256 : (2 : Fin p256) ≠ 0 := by decide +kernel
theorem on_root {x : Fin p256} (h : x * x * x + 0 * (x * x) + -3 * x + oN b256 = 0) : x * x * x = 3 * x - oN b256 := by
  generalize oN b256 = B at *
  grind -lia
def C256 : Cv p256 where
  inv := pinv
  a2 := 0
  a4 := -3
  a6 := oN b256
  inv_mul := pinv_mul pr256
  two := two256
  ns := fun x h => absurd (on_root h) (no_root x)
theorem no_two (P : Pt p256) (hP : C256.on P) (h : C256.add P P = .O) : P = .O := by
  cases P with
  | O => rfl
  | A x y =>
    exfalso
    by_cases hd : x = x ∧ y + y = 0
    · have hy : y = 0 := C256.nz2 hd.2
      have hP : y * y = x * x * x + 0 * (x * x) + -3 * x + oN b256 := hP
      refine no_root x (on_root ?_)
      rw [← hP, hy]; grind -lia
    · have : C256.add (.A x y) (.A x y) ≠ .O := by
        obtain ⟨al, _, e⟩ := C256.sl_exists hP hP hd
        rw [e]; intro z; cases z
      exact this h

abbrev P2 : Int := 115792089210356248762697446949407573530086143415290314195533631308867097853951
def tI (a b : Int) : Int := a * b % P2
def aI (a b : Int) : Int := (a + b) % P2
def sI (a b : Int) : Int := (a - b) % P2
abbrev Sol := Int × Int × Int
def twI (a : Sol) : Sol :=
  if a.2.2 = 0 ∨ a.2.1 = 0 then (0, 1, 0) else
  let w := sI (tI 3 (tI a.1 a.1)) (tI 3 (tI a.2.2 a.2.2))
  let s := tI a.2.1 a.2.2
  let b := tI (tI a.1 a.2.1) s
  let h := sI (tI w w) (tI 8 b)
  let ys := tI a.2.1 s
  (tI 2 (tI h s), sI (tI w (sI (tI 4 b) h)) (tI 8 (tI ys ys)), tI 8 (tI s (tI s s)))
def plI (a b : Sol) : Sol :=
  if a.2.2 = 0 then b else if b.2.2 = 0 then a else
  let u := sI (tI b.2.1 a.2.2) (tI a.2.1 b.2.2)
  let v := sI (tI b.1 a.2.2) (tI a.1 b.2.2)
  if v = 0 then (if u = 0 then twI a else (0, 1, 0)) else
  let zz := tI a.2.2 b.2.2
  let vv := tI v v
  let vvv := tI v vv
  let r := tI vv (tI a.1 b.2.2)
  let x := sI (sI (tI (tI u u) zz) vvv) (tI 2 r)
  (tI v x, sI (tI u (sI r x)) (tI vvv (tI a.2.1 b.2.2)), tI vvv zz)
abbrev f2 (x : Int) : Fin p256 := toF p256 x
theorem f2_tI (a b : Int) : f2 (tI a b) = f2 a * f2 b := by rw [← toF_mul]; exact toF_mod _
theorem f2_aI (a b : Int) : f2 (aI a b) = f2 a + f2 b := by rw [← toF_add]; exact toF_mod _
theorem f2_sI (a b : Int) : f2 (sI a b) = f2 a - f2 b := by rw [← toF_sub]; exact toF_mod _
abbrev inP (x : Int) : Prop := 0 ≤ x ∧ x < P2
theorem in_mod (x : Int) : inP (x % P2) := ⟨Int.emod_nonneg _ (by decide), Int.emod_lt_of_pos _ (by decide)⟩
theorem f2_zero {x : Int} (h : inP x) : f2 x = 0 ↔ x = 0 := toF_eq_zero h
structure RI (a : Sol) (P : Pt p256) : Prop where
  on : C256.on P
  rp : Rp (f2 a.1) (f2 a.2.1) (f2 a.2.2) P
  i1 : inP a.1
  i2 : inP a.2.1
  i3 : inP a.2.2
theorem f2_num : f2 2 = 2 ∧ f2 3 = 3 ∧ f2 4 = 4 ∧ f2 8 = 8 := ⟨rfl, rfl, rfl, rfl⟩
theorem f2_01 : f2 0 = 0 ∧ f2 1 = 1 := ⟨rfl, rfl⟩
theorem RI.O : RI (0, 1, 0) .O := ⟨trivial, rfl, by decide, by decide, by decide⟩
theorem RI.O_of {a : Sol} {P : Pt p256} (h : RI a P) (hz : a.2.2 = 0) : P = .O := by
  have := h.rp
  cases P with
  | O => rfl
  | A x y => exact absurd (by rw [hz]; rfl) this.1
theorem RI.z_of {a : Sol} (h : RI a .O) : a.2.2 = 0 := (f2_zero h.i3).1 h.rp
theorem RI.twice {a : Sol} {P : Pt p256} (h : RI a P) : RI (twI a) (C256.add P P) := by
  unfold twI
  split
  · rename_i hz
    have : C256.add P P = .O := by
      cases P with
      | O => rfl
      | A x y =>
        rcases hz with hz | hz
        · exact absurd (h.O_of hz) (by simp)
        · have hr := h.rp
          refine C256.add_same (C256.nz (a := f2 a.2.2) ?_ hr.1)
          have : f2 a.2.1 = 0 := by rw [hz]; rfl
          rw [hr.2.2] at this
          rw [← this]; grind -lia
    rw [this]; exact RI.O
  · rename_i hz
    have hn : f2 a.2.2 ≠ 0 := fun e => hz (.inl ((f2_zero h.i3).1 e))
    have hy : f2 a.2.1 ≠ 0 := fun e => hz (.inr ((f2_zero h.i2).1 e))
    refine ⟨C256.on_add h.on h.on, ?_, in_mod _, in_mod _, in_mod _⟩
    have k := C256.twice_p rfl h.on h.rp hn hy (w := f2 (sI (tI 3 (tI a.1 a.1)) (tI 3 (tI a.2.2 a.2.2)))) (s := f2 (tI a.2.1 a.2.2)) (b := f2 (tI (tI a.1 a.2.1) (tI a.2.1 a.2.2)))
      (h := f2 (sI (tI (sI (tI 3 (tI a.1 a.1)) (tI 3 (tI a.2.2 a.2.2))) (sI (tI 3 (tI a.1 a.1)) (tI 3 (tI a.2.2 a.2.2)))) (tI 8 (tI (tI a.1 a.2.1) (tI a.2.1 a.2.2)))))
      (by simp only [f2_sI, f2_tI, f2_num.2.1]; show _ = 3 * _ + (-3) * _; grind -lia) (by simp only [f2_tI]) (by simp only [f2_tI]) (by simp only [f2_sI, f2_tI, f2_num.2.2.2])
    simp only [f2_sI, f2_tI, f2_num.1, f2_num.2.1, f2_num.2.2.1, f2_num.2.2.2] at k ⊢
    exact k
theorem RI.plus {a b : Sol} {P Q : Pt p256} (h : RI a P) (k : RI b Q) : RI (plI a b) (C256.add P Q) := by
  unfold plI
  split
  · rename_i hz
    rw [h.O_of hz, C256.O_add]; exact k
  · split
    · rename_i hz
      rw [k.O_of hz, C256.add_O]; exact h
    · rename_i hz1 hz2
      have n1 : f2 a.2.2 ≠ 0 := fun e => hz1 ((f2_zero h.i3).1 e)
      have n2 : f2 b.2.2 ≠ 0 := fun e => hz2 ((f2_zero k.i3).1 e)
      have iu : inP (sI (tI b.2.1 a.2.2) (tI a.2.1 b.2.2)) := in_mod _
      have iv : inP (sI (tI b.1 a.2.2) (tI a.1 b.2.2)) := in_mod _
      obtain ⟨g1, g2, g3⟩ := C256.plus_p rfl h.on k.on h.rp k.rp n1 n2 (u := f2 (sI (tI b.2.1 a.2.2) (tI a.2.1 b.2.2))) (v := f2 (sI (tI b.1 a.2.2) (tI a.1 b.2.2))) (by simp only [f2_sI, f2_tI]) (by simp only [f2_sI, f2_tI])
      simp only
      split
      · rename_i hv
        have hv := (f2_zero iv).2 hv
        split
        · rename_i hu
          have hu := (f2_zero iu).2 hu
          rw [← g2 hv hu]; exact h.twice
        · rename_i hu
          rw [g1 hv (fun e => hu ((f2_zero iu).1 e))]; exact RI.O
      · rename_i hv
        have hv : f2 (sI (tI b.1 a.2.2) (tI a.1 b.2.2)) ≠ 0 := fun e => hv ((f2_zero iv).1 e)
        have := g3 hv _ _ _ rfl rfl rfl
        refine ⟨C256.on_add h.on k.on, ?_, in_mod _, in_mod _, in_mod _⟩
        simp only [f2_sI, f2_tI, f2_num.1] at this ⊢
        exact this
def mI : Nat → Nat → Sol → Sol
  | 0, _, _ => (0, 1, 0)
  | f + 1, k, a => if k % 2 = 1 then plI (twI (mI f (k / 2) a)) a else twI (mI f (k / 2) a)
theorem RI.mul {a : Sol} {P : Pt p256} (h : RI a P) : ∀ (f k : Nat), k < 2 ^ f → RI (mI f k a) (C256.mul k P)
  | 0, k, hk => by
    have : k = 0 := by simpa using hk
    subst this; exact RI.O
  | f + 1, k, hk => by
    have ih := h.mul f (k / 2) (by rw [Nat.pow_succ] at hk; omega)
    have e : C256.add (C256.mul (k / 2) P) (C256.mul (k / 2) P) = C256.mul (k / 2 + k / 2) P := (C256.mul_add h.on _ _).symm
    simp only [mI]
    split
    · have := ih.twice.plus h
      rw [e] at this
      have e2 : C256.mul k P = C256.add (C256.mul (k / 2 + k / 2) P) P := by
        show _ = C256.mul (k / 2 + k / 2 + 1) P
        rw [show k / 2 + k / 2 + 1 = k by omega]
      rw [e2]; exact this
    · have := ih.twice
      rw [e, show k / 2 + k / 2 = k by omega] at this
      exact this
def gx : Int := 48439561293906451759052585252797914202762949526041747995844080717082404635286
def gy : Int := 36134250956749795798585127919587881956611106672985015071877198253568414405109
def G256 : Pt p256 := .A (f2 gx) (f2 gy)
theorem G_on : C256.on G256 := by
  show f2 gy * f2 gy = f2 gx * f2 gx * f2 gx + 0 * (f2 gx * f2 gx) + -3 * f2 gx + oN b256
  decide +kernel
theorem G_RI : RI (gx, gy, 1) G256 := ⟨G_on, ⟨by decide +kernel, by show f2 gx = f2 gx * f2 1; rw [f2_01.2]; grind -lia, by show f2 gy = f2 gy * f2 1; rw [f2_01.2]; grind -lia⟩, by decide, by decide, by decide⟩
theorem nG_z : (mI 256 n256 (gx, gy, 1)).2.2 = 0 := by decide +kernel
theorem nG : C256.mul n256 G256 = .O := (G_RI.mul 256 n256 (by decide +kernel)).O_of nG_z
theorem all256 (P : Pt p256) (hP : C256.on P) : ∃ i, P = C256.mul i G256 :=
  C256.cyclic G_on prn256 nG (by intro h; cases h) (by decide +kernel) (by decide +kernel) no_two P hP
theorem order256 (P : Pt p256) (hP : C256.on P) : C256.mul n256 P = .O := by
  obtain ⟨i, rfl⟩ := all256 P hP
  rw [C256.mul_comm G_on, nG, C256.mul_O]
end Go.EC
