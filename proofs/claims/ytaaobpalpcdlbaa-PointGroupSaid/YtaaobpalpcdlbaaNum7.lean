import Derived.Test.YtaaobpalpcdlbaaNum6
namespace Go.Proofs.Ytaaobpalpcdlbaa.Bits
open Go Go.Sx Go.RowKit
set_option linter.unusedVariables false
set_option maxRecDepth 100000
theorem takeStep {q d u c b : Int} {K : Int → Int → Int → Prop} (hq : 0 ≤ q ∧ q ≤ 18446744073709551615) (hd : 0 ≤ d ∧ d ≤ 18446744073709551615) (hu : 0 ≤ u ∧ u ≤ 18446744073709551615) (hc : 0 ≤ c ∧ c ≤ 18446744073709551615) (hb : 0 ≤ b ∧ b ≤ 1)
    (h : ∀ c' w b', w - b' * 18446744073709551616 - c' * 18446744073709551616 = u - b - q * d - c → (0 ≤ c' ∧ c' ≤ 18446744073709551615) → (0 ≤ w ∧ w ≤ 18446744073709551615) → (0 ≤ b' ∧ b' ≤ 1) → K c' w b') :
    (U64 q ∧ U64 d) ∧ ∀ vh : Int, vh = q * d / 18446744073709551616 → ∀ vl : Int, vl = q * d % 18446744073709551616 → (U64 vl ∧ U64 c ∧ (0 : Int) ≤ 0 ∧ (0 : Int) ≤ 1) ∧ ∀ vs : Int, vs = s64 vl c 0 → ∀ vc : Int, vc = c64 vl c 0 → ∀ c' : Int, c' = IntKind.u64.wrap (vh + vc) →
      (U64 u ∧ U64 vs ∧ 0 ≤ b ∧ b ≤ 1) ∧ ∀ w : Int, w = d64 u vs b → ∀ b' : Int, b' = b64 u vs b → K c' w b' := by
  refine ⟨⟨hq, hd⟩, fun vh h1 vl h2 => ⟨⟨⟨by omega, by omega⟩, hc, by omega, by omega⟩, fun vs h3 vc h4 c' h5 => ⟨⟨hu, ⟨by unfold s64 at h3; omega, by unfold s64 at h3; omega⟩, hb⟩, fun w hw b' hb' => ?_⟩⟩⟩
  have vs0 : 0 ≤ vs ∧ vs ≤ 18446744073709551615 := by unfold s64 at h3; omega
  obtain ⟨k1, k2, k3, k4, k5⟩ := subW hu vs0 hb.1 hb.2 hw hb'
  obtain ⟨p0, p1⟩ := mul_in hq.1 hq.2 hd.1 hd.2
  refine h _ _ _ ?_ ?_ ⟨k2, k3⟩ ⟨k4, k5⟩
  all_goals
    generalize q * d = P at *
    rw [w_u64] at h5
    unfold s64 at h3
    unfold c64 at h4
    omega
theorem qest_in {u v d : Int} (hu : 0 ≤ u ∧ u ≤ 18446744073709551615) (hv : 0 ≤ v ∧ v ≤ 18446744073709551615) (hd : 9223372036854775808 ≤ d) (hd' : d ≤ 18446744073709551615) :
    (0 ≤ qestF u v d ∧ qestF u v d ≤ 18446744073709551615) ∧ (qestF u v d = 18446744073709551615 ∨ u * 18446744073709551616 + v < (qestF u v d + 1) * d) := by
  unfold qestF
  split
  · rename_i e
    have a := Int.emod_add_mul_ediv (u * 18446744073709551616 + v) d
    have b := Int.emod_lt_of_pos (u * 18446744073709551616 + v) (show 0 < d by omega)
    refine ⟨⟨Int.ediv_nonneg (by omega) (by omega), ?_⟩, .inr ?_⟩
    · have : (u * 18446744073709551616 + v) / d < 18446744073709551616 := Int.ediv_lt_of_lt_mul (by omega) (by omega)
      omega
    · rw [Int.add_mul, Int.one_mul, Int.mul_comm ((u * 18446744073709551616 + v) / d)]; omega
  · exact ⟨by omega, .inl rfl⟩
theorem quo_est1 {q u0 u1 d0 : Int} (hu0 : 0 ≤ u0 ∧ u0 ≤ 18446744073709551615) (hu1 : 0 ≤ u1 ∧ u1 ≤ 18446744073709551615) (hd0 : 0 ≤ d0 ∧ d0 ≤ 18446744073709551615) (hn : 9223372036854775808 ≤ d0) (qr : 0 ≤ q ∧ q ≤ 18446744073709551615) (qlo : q = 18446744073709551615 ∨ u1 * 18446744073709551616 + u0 < (q + 1) * d0) (hlt : (val5 u0 u1 0 0 0) < (val5 d0 0 0 0 0) * 18446744073709551616) : (val5 u0 u1 0 0 0) < q * (val5 d0 0 0 0 0) + (val5 d0 0 0 0 0) := by
  rcases qlo with e | e
  · rw [e]; omega
  · have k : (q + 1) * d0 * 1 ≤ q * (val5 d0 0 0 0 0) + (val5 d0 0 0 0 0) := by
      have a : q * (val5 d0 0 0 0 0) + (val5 d0 0 0 0 0) = (q + 1) * d0 * 1 + (q + 1) * (0) := by unfold val5 val4; grind
      have b : 0 ≤ (q + 1) * (0) := Int.mul_nonneg (by omega) (by omega)
      omega
    have c : u1 * 18446744073709551616 + u0 ≤ (q + 1) * d0 - 1 := by omega
    have d := Int.mul_le_mul_of_nonneg_right c (show (0 : Int) ≤ 1 by omega)
    have e : ((q + 1) * d0 - 1) * 1 = (q + 1) * d0 * 1 - 1 := by grind
    have f : (val5 u0 u1 0 0 0) < (u1 * 18446744073709551616 + u0) * 1 + 1 := by unfold val5 val4; omega
    omega
theorem part1 {u0 u1 d0 : Int} {Tq : Int → Int → Prop} {Tp : Int → Int → Int → Int → (Int × Int × (Nat → Int)) → Prop} {Td : (Int × Int × (Nat → Int)) → (Int × (Nat → Int)) → Prop}
    (hu0 : 0 ≤ u0 ∧ u0 ≤ 18446744073709551615) (hu1 : 0 ≤ u1 ∧ u1 ≤ 18446744073709551615) (hd0 : 0 ≤ d0 ∧ d0 ≤ 18446744073709551615) (hn : 9223372036854775808 ≤ d0) (hlt : (val5 u0 u1 0 0 0) < (val5 d0 0 0 0 0) * 18446744073709551616)
    (tq : ∀ q, Tq q q) (tp : ∀ q b w0 w1 (f : Nat → Int), f 0 = w0 → f 1 = w1 → Tp q b w0 w1 (q, b, f)) (td : ∀ q b (f : Nat → Int), Td (q, b, f) (q, f)) :
    ∀ v : Bool, v = decide (u1 < d0) → ((v = true → (U64 u1 ∧ U64 u0 ∧ U64 d0 ∧ u1 < d0) ∧ ∀ q : Int, q = (u1 * 18446744073709551616 + u0) / d0 → ∀ r : Int, r = (u1 * 18446744073709551616 + u0) % d0 → ∃ x : Int, x = qestF u1 u0 d0 ∧ Tq q x) ∧
      (v = false → ∃ x : Int, x = qestF u1 u0 d0 ∧ Tq 18446744073709551615 x)) ∧ ∀ q : Int, q = qestF u1 u0 d0 → (U64 q ∧ U64 d0) ∧ ∀ vh0 : Int, vh0 = q * d0 / 18446744073709551616 → ∀ vl0 : Int, vl0 = q * d0 % 18446744073709551616 → (U64 vl0 ∧ U64 (0) ∧ (0 : Int) ≤ 0 ∧ (0 : Int) ≤ 1) ∧ ∀ vs0 : Int, vs0 = s64 vl0 (0) 0 → ∀ vc0 : Int, vc0 = c64 vl0 (0) 0 → ∀ c0 : Int, c0 = IntKind.u64.wrap (vh0 + vc0) → (U64 u0 ∧ U64 vs0 ∧ (0 : Int) ≤ 0 ∧ 0 ≤ (1 : Int)) ∧ ∀ w0 : Int, w0 = d64 u0 vs0 (0) → ∀ b0 : Int, b0 = b64 u0 vs0 (0) → (U64 u1 ∧ U64 c0 ∧ (0 : Int) ≤ b0 ∧ b0 ≤ (1 : Int)) ∧ ∀ w1 : Int, w1 = d64 u1 c0 b0 → ∀ b1 : Int, b1 = b64 u1 c0 b0 → (∃ x : Int × Int × (Nat → Int), partR 340282366920938463463374607431768211456 (val5 d0 0 0 0 0) (val5 w0 w1 0 0 0) q b1 x.fst x.snd.fst (x.2.2 0) (x.2.2 1) 0 0 0 ∧ Tp q b1 w0 w1 x) ∧ ∀ p : Int × Int × (Nat → Int), partR 340282366920938463463374607431768211456 (val5 d0 0 0 0 0) (val5 w0 w1 0 0 0) q b1 p.fst p.snd.fst (p.2.2 0) (p.2.2 1) 0 0 0 → ∀ vb : Bool, vb = (p.snd.fst == 1) → (vb = true → (U64 (p.snd.snd 0) ∧ U64 d0 ∧ (0 : Int) ≤ 0 ∧ 0 ≤ (1 : Int)) ∧ ∀ g0 : Int, g0 = s64 (p.snd.snd 0) d0 0 → ∀ k0 : Int, k0 = c64 (p.snd.snd 0) d0 0 → (U64 (p.snd.snd 1) ∧ U64 (0 : Int) ∧ (0 : Int) ≤ k0 ∧ k0 ≤ (1 : Int)) ∧ ∀ g1 : Int, g1 = s64 (p.snd.snd 1) 0 k0 → ∀ k1 : Int, k1 = c64 (p.snd.snd 1) 0 k0 → ∀ bb : Int, bb = IntKind.u64.wrap (p.snd.fst - k1) → ∀ qq : Int, qq = IntKind.u64.wrap (p.fst - 1) → ∃ x : Int × Int × (Nat → Int), partR 340282366920938463463374607431768211456 (val5 d0 0 0 0 0) (val5 w0 w1 0 0 0) q b1 x.fst x.snd.fst (x.2.2 0) (x.2.2 1) 0 0 0 ∧ Tp qq bb g0 g1 x ∧ (340282366920938463463374607431768211456 - (val5 (x.2.2 0) (x.2.2 1) 0 0 0 - x.snd.fst * 340282366920938463463374607431768211456)).toNat < (340282366920938463463374607431768211456 - (val5 (p.2.2 0) (p.2.2 1) 0 0 0 - p.snd.fst * 340282366920938463463374607431768211456)).toNat) ∧ (vb = false → ∃ x : Int × (Nat → Int), divR 18446744073709551616 (val5 d0 0 0 0 0) (val5 u0 u1 0 0 0) x.fst (x.2 0) (x.2 1) 0 0 0 ∧ Td p x) := by
  have qe := qest_in (d := d0) hu1 hu0 hn hd0.2
  rintro v rfl
  refine ⟨⟨fun e => ⟨⟨hu1, hu0, hd0, of_decide_eq_true e⟩, fun q hq r hr => ⟨q, by rw [hq]; unfold qestF; rw [if_pos (of_decide_eq_true e)], tq q⟩⟩, fun e => ⟨_, by unfold qestF; rw [if_neg (of_decide_eq_false e)], tq _⟩⟩, fun q hq => ?_⟩
  rw [← hq] at qe
  obtain ⟨qr, qlo⟩ := qe
  refine takeStep qr hd0 hu0 (show (0 : Int) ≤ 0 ∧ (0 : Int) ≤ 18446744073709551615 by omega) (show (0 : Int) ≤ 0 ∧ (0 : Int) ≤ 1 by omega) (fun c0 w0 b0 e0 rc0 rw0 rb0 => ?_)
  refine ⟨⟨hu1, rc0, rb0.1, rb0.2⟩, fun w1 hw b1 hb => ?_⟩
  obtain ⟨e1, w01, w11, bl, bh⟩ := subW hu1 rc0 rb0.1 rb0.2 hw hb
  have hqd : q * (val5 d0 0 0 0 0) = q * d0 * 1 := by unfold val5 val4; grind
  have hsum : (val5 w0 w1 0 0 0) - b1 * 340282366920938463463374607431768211456 + q * (val5 d0 0 0 0 0) = (val5 u0 u1 0 0 0) := by
    rw [hqd]
    generalize q * d0 = P0 at *
    unfold val5 val4
    omega
  have hD : 0 ≤ (val5 d0 0 0 0 0) := by unfold val5 val4; omega
  have hU0 : 0 ≤ (val5 u0 u1 0 0 0) := by unfold val5 val4; omega
  have hD1 : 0 < (val5 d0 0 0 0 0) := by unfold val5 val4; omega
  have hDB : (val5 d0 0 0 0 0) < 18446744073709551616 := by unfold val5 val4; omega
  have hest : (val5 u0 u1 0 0 0) < q * (val5 d0 0 0 0 0) + (val5 d0 0 0 0 0) := quo_est1 hu0 hu1 hd0 hn qr qlo hlt
  refine ⟨⟨(q, b1, (fun j => match j with | 0 => w0 | _ => w1)), ⟨⟨rfl, by simp only; omega⟩, rw0, ⟨w01, w11⟩, ⟨by omega, by omega⟩, ⟨by omega, by omega⟩, ⟨by omega, by omega⟩, qr, bl, bh⟩, tp _ _ _ _ _ rfl rfl⟩, ?_⟩
  rintro ⟨q', b', f⟩ ⟨⟨k1, k2⟩, x0, x1, _, _, _, rq, rb0, rb1⟩
  simp only at k1 k2 rq rb0 rb1 x0 x1
  rw [hsum] at k1
  refine brE (fun eb => ?_) fun eb => ?_
  · refine ⟨⟨x0, hd0, by omega, by omega⟩, fun g0 hg0 k0 hk0 => ?_⟩
    obtain ⟨y0, yl0, yh0, zl0, zh0⟩ := addW x0 hd0 (show (0 : Int) ≤ 0 by omega) (show (0 : Int) ≤ 1 by omega) hg0 hk0
    refine ⟨⟨x1, (show (0 : Int) ≤ 0 ∧ (0 : Int) ≤ 18446744073709551615 by omega), by omega, by omega⟩, fun g1 hg1 k1 hk1 => ?_⟩
    obtain ⟨y1, yl1, yh1, zl1, zh1⟩ := addW x1 (show (0 : Int) ≤ 0 ∧ (0 : Int) ≤ 18446744073709551615 by omega) zl0 zh0 hg1 hk1
    simp only at eb
    intro bb hbb qq hqq
    simp only at hbb hqq y0 y1
    have hg : (val5 g0 g1 0 0 0) + k1 * 340282366920938463463374607431768211456 = (val5 (f 0) (f 1) 0 0 0) + (val5 d0 0 0 0 0) := by unfold val5 val4; omega
    have hf0 : 0 ≤ (val5 (f 0) (f 1) 0 0 0) ∧ (val5 (f 0) (f 1) 0 0 0) < 340282366920938463463374607431768211456 := by unfold val5 val4; omega
    have hq1 : 1 ≤ q' := by
      rcases Int.lt_or_le 0 q' with h | h
      · omega
      · have : q' = 0 := by omega
        subst this
        omega
    rw [w_u64] at hbb hqq
    have hbb' : bb = b' - k1 := by omega
    have hqq' : qq = q' - 1 := by omega
    have hqm : (q' - 1) * (val5 d0 0 0 0 0) = q' * (val5 d0 0 0 0 0) - (val5 d0 0 0 0 0) := by rw [Int.sub_mul, Int.one_mul]
    refine ⟨(qq, bb, (fun j => match j with | 0 => g0 | _ => g1)), ⟨⟨?_, ?_⟩, ⟨yl0, yh0⟩, ⟨yl1, yh1⟩, ⟨by omega, by omega⟩, ⟨by omega, by omega⟩, ⟨by omega, by omega⟩, ⟨by simp only; omega, by simp only; omega⟩, by simp only; omega, by simp only; omega⟩, tp _ _ _ _ _ rfl rfl, ?_⟩
    · simp only
      rw [hsum, hqq', hqm, hbb']
      omega
    · simp only
      omega
    · simp only
      omega
  · simp only at eb
    have hb0 : b' = 0 := by omega
    subst hb0
    exact ⟨(q', f), ⟨⟨by simp only; omega, by simp only; omega⟩, x0, x1, ⟨by omega, by omega⟩, ⟨by omega, by omega⟩, ⟨by omega, by omega⟩, rq⟩, td _ _ _⟩
theorem quo_est2 {q u0 u1 u2 d0 d1 : Int} (hu0 : 0 ≤ u0 ∧ u0 ≤ 18446744073709551615) (hu1 : 0 ≤ u1 ∧ u1 ≤ 18446744073709551615) (hu2 : 0 ≤ u2 ∧ u2 ≤ 18446744073709551615) (hd0 : 0 ≤ d0 ∧ d0 ≤ 18446744073709551615) (hd1 : 0 ≤ d1 ∧ d1 ≤ 18446744073709551615) (hn : 9223372036854775808 ≤ d1) (qr : 0 ≤ q ∧ q ≤ 18446744073709551615) (qlo : q = 18446744073709551615 ∨ u2 * 18446744073709551616 + u1 < (q + 1) * d1) (hlt : (val5 u0 u1 u2 0 0) < (val5 d0 d1 0 0 0) * 18446744073709551616) : (val5 u0 u1 u2 0 0) < q * (val5 d0 d1 0 0 0) + (val5 d0 d1 0 0 0) := by
  rcases qlo with e | e
  · rw [e]; omega
  · have k : (q + 1) * d1 * 18446744073709551616 ≤ q * (val5 d0 d1 0 0 0) + (val5 d0 d1 0 0 0) := by
      have a : q * (val5 d0 d1 0 0 0) + (val5 d0 d1 0 0 0) = (q + 1) * d1 * 18446744073709551616 + (q + 1) * (d0 * 1) := by unfold val5 val4; grind
      have b : 0 ≤ (q + 1) * (d0 * 1) := Int.mul_nonneg (by omega) (by omega)
      omega
    have c : u2 * 18446744073709551616 + u1 ≤ (q + 1) * d1 - 1 := by omega
    have d := Int.mul_le_mul_of_nonneg_right c (show (0 : Int) ≤ 18446744073709551616 by omega)
    have e : ((q + 1) * d1 - 1) * 18446744073709551616 = (q + 1) * d1 * 18446744073709551616 - 18446744073709551616 := by grind
    have f : (val5 u0 u1 u2 0 0) < (u2 * 18446744073709551616 + u1) * 18446744073709551616 + 18446744073709551616 := by unfold val5 val4; omega
    omega
theorem part2 {u0 u1 u2 d0 d1 : Int} {Tq : Int → Int → Prop} {Tp : Int → Int → Int → Int → Int → (Int × Int × (Nat → Int)) → Prop} {Td : (Int × Int × (Nat → Int)) → (Int × (Nat → Int)) → Prop}
    (hu0 : 0 ≤ u0 ∧ u0 ≤ 18446744073709551615) (hu1 : 0 ≤ u1 ∧ u1 ≤ 18446744073709551615) (hu2 : 0 ≤ u2 ∧ u2 ≤ 18446744073709551615) (hd0 : 0 ≤ d0 ∧ d0 ≤ 18446744073709551615) (hd1 : 0 ≤ d1 ∧ d1 ≤ 18446744073709551615) (hn : 9223372036854775808 ≤ d1) (hlt : (val5 u0 u1 u2 0 0) < (val5 d0 d1 0 0 0) * 18446744073709551616)
    (tq : ∀ q, Tq q q) (tp : ∀ q b w0 w1 w2 (f : Nat → Int), f 0 = w0 → f 1 = w1 → f 2 = w2 → Tp q b w0 w1 w2 (q, b, f)) (td : ∀ q b (f : Nat → Int), Td (q, b, f) (q, f)) :
    ∀ v : Bool, v = decide (u2 < d1) → ((v = true → (U64 u2 ∧ U64 u1 ∧ U64 d1 ∧ u2 < d1) ∧ ∀ q : Int, q = (u2 * 18446744073709551616 + u1) / d1 → ∀ r : Int, r = (u2 * 18446744073709551616 + u1) % d1 → ∃ x : Int, x = qestF u2 u1 d1 ∧ Tq q x) ∧
      (v = false → ∃ x : Int, x = qestF u2 u1 d1 ∧ Tq 18446744073709551615 x)) ∧ ∀ q : Int, q = qestF u2 u1 d1 → (U64 q ∧ U64 d0) ∧ ∀ vh0 : Int, vh0 = q * d0 / 18446744073709551616 → ∀ vl0 : Int, vl0 = q * d0 % 18446744073709551616 → (U64 vl0 ∧ U64 (0) ∧ (0 : Int) ≤ 0 ∧ (0 : Int) ≤ 1) ∧ ∀ vs0 : Int, vs0 = s64 vl0 (0) 0 → ∀ vc0 : Int, vc0 = c64 vl0 (0) 0 → ∀ c0 : Int, c0 = IntKind.u64.wrap (vh0 + vc0) → (U64 u0 ∧ U64 vs0 ∧ (0 : Int) ≤ 0 ∧ 0 ≤ (1 : Int)) ∧ ∀ w0 : Int, w0 = d64 u0 vs0 (0) → ∀ b0 : Int, b0 = b64 u0 vs0 (0) → (U64 q ∧ U64 d1) ∧ ∀ vh1 : Int, vh1 = q * d1 / 18446744073709551616 → ∀ vl1 : Int, vl1 = q * d1 % 18446744073709551616 → (U64 vl1 ∧ U64 (c0) ∧ (0 : Int) ≤ 0 ∧ (0 : Int) ≤ 1) ∧ ∀ vs1 : Int, vs1 = s64 vl1 (c0) 0 → ∀ vc1 : Int, vc1 = c64 vl1 (c0) 0 → ∀ c1 : Int, c1 = IntKind.u64.wrap (vh1 + vc1) → (U64 u1 ∧ U64 vs1 ∧ (0 : Int) ≤ b0 ∧ b0 ≤ (1 : Int)) ∧ ∀ w1 : Int, w1 = d64 u1 vs1 (b0) → ∀ b1 : Int, b1 = b64 u1 vs1 (b0) → (U64 u2 ∧ U64 c1 ∧ (0 : Int) ≤ b1 ∧ b1 ≤ (1 : Int)) ∧ ∀ w2 : Int, w2 = d64 u2 c1 b1 → ∀ b2 : Int, b2 = b64 u2 c1 b1 → (∃ x : Int × Int × (Nat → Int), partR 6277101735386680763835789423207666416102355444464034512896 (val5 d0 d1 0 0 0) (val5 w0 w1 w2 0 0) q b2 x.fst x.snd.fst (x.2.2 0) (x.2.2 1) (x.2.2 2) 0 0 ∧ Tp q b2 w0 w1 w2 x) ∧ ∀ p : Int × Int × (Nat → Int), partR 6277101735386680763835789423207666416102355444464034512896 (val5 d0 d1 0 0 0) (val5 w0 w1 w2 0 0) q b2 p.fst p.snd.fst (p.2.2 0) (p.2.2 1) (p.2.2 2) 0 0 → ∀ vb : Bool, vb = (p.snd.fst == 1) → (vb = true → (U64 (p.snd.snd 0) ∧ U64 d0 ∧ (0 : Int) ≤ 0 ∧ 0 ≤ (1 : Int)) ∧ ∀ g0 : Int, g0 = s64 (p.snd.snd 0) d0 0 → ∀ k0 : Int, k0 = c64 (p.snd.snd 0) d0 0 → (U64 (p.snd.snd 1) ∧ U64 d1 ∧ (0 : Int) ≤ k0 ∧ k0 ≤ (1 : Int)) ∧ ∀ g1 : Int, g1 = s64 (p.snd.snd 1) d1 k0 → ∀ k1 : Int, k1 = c64 (p.snd.snd 1) d1 k0 → (U64 (p.snd.snd 2) ∧ U64 (0 : Int) ∧ (0 : Int) ≤ k1 ∧ k1 ≤ (1 : Int)) ∧ ∀ g2 : Int, g2 = s64 (p.snd.snd 2) 0 k1 → ∀ k2 : Int, k2 = c64 (p.snd.snd 2) 0 k1 → ∀ bb : Int, bb = IntKind.u64.wrap (p.snd.fst - k2) → ∀ qq : Int, qq = IntKind.u64.wrap (p.fst - 1) → ∃ x : Int × Int × (Nat → Int), partR 6277101735386680763835789423207666416102355444464034512896 (val5 d0 d1 0 0 0) (val5 w0 w1 w2 0 0) q b2 x.fst x.snd.fst (x.2.2 0) (x.2.2 1) (x.2.2 2) 0 0 ∧ Tp qq bb g0 g1 g2 x ∧ (6277101735386680763835789423207666416102355444464034512896 - (val5 (x.2.2 0) (x.2.2 1) (x.2.2 2) 0 0 - x.snd.fst * 6277101735386680763835789423207666416102355444464034512896)).toNat < (6277101735386680763835789423207666416102355444464034512896 - (val5 (p.2.2 0) (p.2.2 1) (p.2.2 2) 0 0 - p.snd.fst * 6277101735386680763835789423207666416102355444464034512896)).toNat) ∧ (vb = false → ∃ x : Int × (Nat → Int), divR 340282366920938463463374607431768211456 (val5 d0 d1 0 0 0) (val5 u0 u1 u2 0 0) x.fst (x.2 0) (x.2 1) (x.2 2) 0 0 ∧ Td p x) := by
  have qe := qest_in (d := d1) hu2 hu1 hn hd1.2
  rintro v rfl
  refine ⟨⟨fun e => ⟨⟨hu2, hu1, hd1, of_decide_eq_true e⟩, fun q hq r hr => ⟨q, by rw [hq]; unfold qestF; rw [if_pos (of_decide_eq_true e)], tq q⟩⟩, fun e => ⟨_, by unfold qestF; rw [if_neg (of_decide_eq_false e)], tq _⟩⟩, fun q hq => ?_⟩
  rw [← hq] at qe
  obtain ⟨qr, qlo⟩ := qe
  refine takeStep qr hd0 hu0 (show (0 : Int) ≤ 0 ∧ (0 : Int) ≤ 18446744073709551615 by omega) (show (0 : Int) ≤ 0 ∧ (0 : Int) ≤ 1 by omega) (fun c0 w0 b0 e0 rc0 rw0 rb0 => ?_)
  refine takeStep qr hd1 hu1 rc0 rb0 (fun c1 w1 b1 e1 rc1 rw1 rb1 => ?_)
  refine ⟨⟨hu2, rc1, rb1.1, rb1.2⟩, fun w2 hw b2 hb => ?_⟩
  obtain ⟨e2, w02, w12, bl, bh⟩ := subW hu2 rc1 rb1.1 rb1.2 hw hb
  have hqd : q * (val5 d0 d1 0 0 0) = q * d0 * 1 + q * d1 * 18446744073709551616 := by unfold val5 val4; grind
  have hsum : (val5 w0 w1 w2 0 0) - b2 * 6277101735386680763835789423207666416102355444464034512896 + q * (val5 d0 d1 0 0 0) = (val5 u0 u1 u2 0 0) := by
    rw [hqd]
    generalize q * d0 = P0 at *
    generalize q * d1 = P1 at *
    unfold val5 val4
    omega
  have hD : 0 ≤ (val5 d0 d1 0 0 0) := by unfold val5 val4; omega
  have hU0 : 0 ≤ (val5 u0 u1 u2 0 0) := by unfold val5 val4; omega
  have hD1 : 0 < (val5 d0 d1 0 0 0) := by unfold val5 val4; omega
  have hDB : (val5 d0 d1 0 0 0) < 340282366920938463463374607431768211456 := by unfold val5 val4; omega
  have hest : (val5 u0 u1 u2 0 0) < q * (val5 d0 d1 0 0 0) + (val5 d0 d1 0 0 0) := quo_est2 hu0 hu1 hu2 hd0 hd1 hn qr qlo hlt
  refine ⟨⟨(q, b2, (fun j => match j with | 0 => w0 | 1 => w1 | _ => w2)), ⟨⟨rfl, by simp only; omega⟩, rw0, rw1, ⟨w02, w12⟩, ⟨by omega, by omega⟩, ⟨by omega, by omega⟩, qr, bl, bh⟩, tp _ _ _ _ _ _ rfl rfl rfl⟩, ?_⟩
  rintro ⟨q', b', f⟩ ⟨⟨k1, k2⟩, x0, x1, x2, _, _, rq, rb0, rb1⟩
  simp only at k1 k2 rq rb0 rb1 x0 x1 x2
  rw [hsum] at k1
  refine brE (fun eb => ?_) fun eb => ?_
  · refine ⟨⟨x0, hd0, by omega, by omega⟩, fun g0 hg0 k0 hk0 => ?_⟩
    obtain ⟨y0, yl0, yh0, zl0, zh0⟩ := addW x0 hd0 (show (0 : Int) ≤ 0 by omega) (show (0 : Int) ≤ 1 by omega) hg0 hk0
    refine ⟨⟨x1, hd1, by omega, by omega⟩, fun g1 hg1 k1 hk1 => ?_⟩
    obtain ⟨y1, yl1, yh1, zl1, zh1⟩ := addW x1 hd1 zl0 zh0 hg1 hk1
    refine ⟨⟨x2, (show (0 : Int) ≤ 0 ∧ (0 : Int) ≤ 18446744073709551615 by omega), by omega, by omega⟩, fun g2 hg2 k2 hk2 => ?_⟩
    obtain ⟨y2, yl2, yh2, zl2, zh2⟩ := addW x2 (show (0 : Int) ≤ 0 ∧ (0 : Int) ≤ 18446744073709551615 by omega) zl1 zh1 hg2 hk2
    simp only at eb
    intro bb hbb qq hqq
    simp only at hbb hqq y0 y1 y2
    have hg : (val5 g0 g1 g2 0 0) + k2 * 6277101735386680763835789423207666416102355444464034512896 = (val5 (f 0) (f 1) (f 2) 0 0) + (val5 d0 d1 0 0 0) := by unfold val5 val4; omega
    have hf0 : 0 ≤ (val5 (f 0) (f 1) (f 2) 0 0) ∧ (val5 (f 0) (f 1) (f 2) 0 0) < 6277101735386680763835789423207666416102355444464034512896 := by unfold val5 val4; omega
    have hq1 : 1 ≤ q' := by
      rcases Int.lt_or_le 0 q' with h | h
      · omega
      · have : q' = 0 := by omega
        subst this
        omega
    rw [w_u64] at hbb hqq
    have hbb' : bb = b' - k2 := by omega
    have hqq' : qq = q' - 1 := by omega
    have hqm : (q' - 1) * (val5 d0 d1 0 0 0) = q' * (val5 d0 d1 0 0 0) - (val5 d0 d1 0 0 0) := by rw [Int.sub_mul, Int.one_mul]
    refine ⟨(qq, bb, (fun j => match j with | 0 => g0 | 1 => g1 | _ => g2)), ⟨⟨?_, ?_⟩, ⟨yl0, yh0⟩, ⟨yl1, yh1⟩, ⟨yl2, yh2⟩, ⟨by omega, by omega⟩, ⟨by omega, by omega⟩, ⟨by simp only; omega, by simp only; omega⟩, by simp only; omega, by simp only; omega⟩, tp _ _ _ _ _ _ rfl rfl rfl, ?_⟩
    · simp only
      rw [hsum, hqq', hqm, hbb']
      omega
    · simp only
      omega
    · simp only
      omega
  · simp only at eb
    have hb0 : b' = 0 := by omega
    subst hb0
    exact ⟨(q', f), ⟨⟨by simp only; omega, by simp only; omega⟩, x0, x1, x2, ⟨by omega, by omega⟩, ⟨by omega, by omega⟩, rq⟩, td _ _ _⟩
theorem quo_est3 {q u0 u1 u2 u3 d0 d1 d2 : Int} (hu0 : 0 ≤ u0 ∧ u0 ≤ 18446744073709551615) (hu1 : 0 ≤ u1 ∧ u1 ≤ 18446744073709551615) (hu2 : 0 ≤ u2 ∧ u2 ≤ 18446744073709551615) (hu3 : 0 ≤ u3 ∧ u3 ≤ 18446744073709551615) (hd0 : 0 ≤ d0 ∧ d0 ≤ 18446744073709551615) (hd1 : 0 ≤ d1 ∧ d1 ≤ 18446744073709551615) (hd2 : 0 ≤ d2 ∧ d2 ≤ 18446744073709551615) (hn : 9223372036854775808 ≤ d2) (qr : 0 ≤ q ∧ q ≤ 18446744073709551615) (qlo : q = 18446744073709551615 ∨ u3 * 18446744073709551616 + u2 < (q + 1) * d2) (hlt : (val5 u0 u1 u2 u3 0) < (val5 d0 d1 d2 0 0) * 18446744073709551616) : (val5 u0 u1 u2 u3 0) < q * (val5 d0 d1 d2 0 0) + (val5 d0 d1 d2 0 0) := by
  rcases qlo with e | e
  · rw [e]; omega
  · have k : (q + 1) * d2 * 340282366920938463463374607431768211456 ≤ q * (val5 d0 d1 d2 0 0) + (val5 d0 d1 d2 0 0) := by
      have a : q * (val5 d0 d1 d2 0 0) + (val5 d0 d1 d2 0 0) = (q + 1) * d2 * 340282366920938463463374607431768211456 + (q + 1) * (d0 * 1 + d1 * 18446744073709551616) := by unfold val5 val4; grind
      have b : 0 ≤ (q + 1) * (d0 * 1 + d1 * 18446744073709551616) := Int.mul_nonneg (by omega) (by omega)
      omega
    have c : u3 * 18446744073709551616 + u2 ≤ (q + 1) * d2 - 1 := by omega
    have d := Int.mul_le_mul_of_nonneg_right c (show (0 : Int) ≤ 340282366920938463463374607431768211456 by omega)
    have e : ((q + 1) * d2 - 1) * 340282366920938463463374607431768211456 = (q + 1) * d2 * 340282366920938463463374607431768211456 - 340282366920938463463374607431768211456 := by grind
    have f : (val5 u0 u1 u2 u3 0) < (u3 * 18446744073709551616 + u2) * 340282366920938463463374607431768211456 + 340282366920938463463374607431768211456 := by unfold val5 val4; omega
    omega
theorem part3 {u0 u1 u2 u3 d0 d1 d2 : Int} {Tq : Int → Int → Prop} {Tp : Int → Int → Int → Int → Int → Int → (Int × Int × (Nat → Int)) → Prop} {Td : (Int × Int × (Nat → Int)) → (Int × (Nat → Int)) → Prop}
    (hu0 : 0 ≤ u0 ∧ u0 ≤ 18446744073709551615) (hu1 : 0 ≤ u1 ∧ u1 ≤ 18446744073709551615) (hu2 : 0 ≤ u2 ∧ u2 ≤ 18446744073709551615) (hu3 : 0 ≤ u3 ∧ u3 ≤ 18446744073709551615) (hd0 : 0 ≤ d0 ∧ d0 ≤ 18446744073709551615) (hd1 : 0 ≤ d1 ∧ d1 ≤ 18446744073709551615) (hd2 : 0 ≤ d2 ∧ d2 ≤ 18446744073709551615) (hn : 9223372036854775808 ≤ d2) (hlt : (val5 u0 u1 u2 u3 0) < (val5 d0 d1 d2 0 0) * 18446744073709551616)
    (tq : ∀ q, Tq q q) (tp : ∀ q b w0 w1 w2 w3 (f : Nat → Int), f 0 = w0 → f 1 = w1 → f 2 = w2 → f 3 = w3 → Tp q b w0 w1 w2 w3 (q, b, f)) (td : ∀ q b (f : Nat → Int), Td (q, b, f) (q, f)) :
    ∀ v : Bool, v = decide (u3 < d2) → ((v = true → (U64 u3 ∧ U64 u2 ∧ U64 d2 ∧ u3 < d2) ∧ ∀ q : Int, q = (u3 * 18446744073709551616 + u2) / d2 → ∀ r : Int, r = (u3 * 18446744073709551616 + u2) % d2 → ∃ x : Int, x = qestF u3 u2 d2 ∧ Tq q x) ∧
      (v = false → ∃ x : Int, x = qestF u3 u2 d2 ∧ Tq 18446744073709551615 x)) ∧ ∀ q : Int, q = qestF u3 u2 d2 → (U64 q ∧ U64 d0) ∧ ∀ vh0 : Int, vh0 = q * d0 / 18446744073709551616 → ∀ vl0 : Int, vl0 = q * d0 % 18446744073709551616 → (U64 vl0 ∧ U64 (0) ∧ (0 : Int) ≤ 0 ∧ (0 : Int) ≤ 1) ∧ ∀ vs0 : Int, vs0 = s64 vl0 (0) 0 → ∀ vc0 : Int, vc0 = c64 vl0 (0) 0 → ∀ c0 : Int, c0 = IntKind.u64.wrap (vh0 + vc0) → (U64 u0 ∧ U64 vs0 ∧ (0 : Int) ≤ 0 ∧ 0 ≤ (1 : Int)) ∧ ∀ w0 : Int, w0 = d64 u0 vs0 (0) → ∀ b0 : Int, b0 = b64 u0 vs0 (0) → (U64 q ∧ U64 d1) ∧ ∀ vh1 : Int, vh1 = q * d1 / 18446744073709551616 → ∀ vl1 : Int, vl1 = q * d1 % 18446744073709551616 → (U64 vl1 ∧ U64 (c0) ∧ (0 : Int) ≤ 0 ∧ (0 : Int) ≤ 1) ∧ ∀ vs1 : Int, vs1 = s64 vl1 (c0) 0 → ∀ vc1 : Int, vc1 = c64 vl1 (c0) 0 → ∀ c1 : Int, c1 = IntKind.u64.wrap (vh1 + vc1) → (U64 u1 ∧ U64 vs1 ∧ (0 : Int) ≤ b0 ∧ b0 ≤ (1 : Int)) ∧ ∀ w1 : Int, w1 = d64 u1 vs1 (b0) → ∀ b1 : Int, b1 = b64 u1 vs1 (b0) → (U64 q ∧ U64 d2) ∧ ∀ vh2 : Int, vh2 = q * d2 / 18446744073709551616 → ∀ vl2 : Int, vl2 = q * d2 % 18446744073709551616 → (U64 vl2 ∧ U64 (c1) ∧ (0 : Int) ≤ 0 ∧ (0 : Int) ≤ 1) ∧ ∀ vs2 : Int, vs2 = s64 vl2 (c1) 0 → ∀ vc2 : Int, vc2 = c64 vl2 (c1) 0 → ∀ c2 : Int, c2 = IntKind.u64.wrap (vh2 + vc2) → (U64 u2 ∧ U64 vs2 ∧ (0 : Int) ≤ b1 ∧ b1 ≤ (1 : Int)) ∧ ∀ w2 : Int, w2 = d64 u2 vs2 (b1) → ∀ b2 : Int, b2 = b64 u2 vs2 (b1) → (U64 u3 ∧ U64 c2 ∧ (0 : Int) ≤ b2 ∧ b2 ≤ (1 : Int)) ∧ ∀ w3 : Int, w3 = d64 u3 c2 b2 → ∀ b3 : Int, b3 = b64 u3 c2 b2 → (∃ x : Int × Int × (Nat → Int), partR 115792089237316195423570985008687907853269984665640564039457584007913129639936 (val5 d0 d1 d2 0 0) (val5 w0 w1 w2 w3 0) q b3 x.fst x.snd.fst (x.2.2 0) (x.2.2 1) (x.2.2 2) (x.2.2 3) 0 ∧ Tp q b3 w0 w1 w2 w3 x) ∧ ∀ p : Int × Int × (Nat → Int), partR 115792089237316195423570985008687907853269984665640564039457584007913129639936 (val5 d0 d1 d2 0 0) (val5 w0 w1 w2 w3 0) q b3 p.fst p.snd.fst (p.2.2 0) (p.2.2 1) (p.2.2 2) (p.2.2 3) 0 → ∀ vb : Bool, vb = (p.snd.fst == 1) → (vb = true → (U64 (p.snd.snd 0) ∧ U64 d0 ∧ (0 : Int) ≤ 0 ∧ 0 ≤ (1 : Int)) ∧ ∀ g0 : Int, g0 = s64 (p.snd.snd 0) d0 0 → ∀ k0 : Int, k0 = c64 (p.snd.snd 0) d0 0 → (U64 (p.snd.snd 1) ∧ U64 d1 ∧ (0 : Int) ≤ k0 ∧ k0 ≤ (1 : Int)) ∧ ∀ g1 : Int, g1 = s64 (p.snd.snd 1) d1 k0 → ∀ k1 : Int, k1 = c64 (p.snd.snd 1) d1 k0 → (U64 (p.snd.snd 2) ∧ U64 d2 ∧ (0 : Int) ≤ k1 ∧ k1 ≤ (1 : Int)) ∧ ∀ g2 : Int, g2 = s64 (p.snd.snd 2) d2 k1 → ∀ k2 : Int, k2 = c64 (p.snd.snd 2) d2 k1 → (U64 (p.snd.snd 3) ∧ U64 (0 : Int) ∧ (0 : Int) ≤ k2 ∧ k2 ≤ (1 : Int)) ∧ ∀ g3 : Int, g3 = s64 (p.snd.snd 3) 0 k2 → ∀ k3 : Int, k3 = c64 (p.snd.snd 3) 0 k2 → ∀ bb : Int, bb = IntKind.u64.wrap (p.snd.fst - k3) → ∀ qq : Int, qq = IntKind.u64.wrap (p.fst - 1) → ∃ x : Int × Int × (Nat → Int), partR 115792089237316195423570985008687907853269984665640564039457584007913129639936 (val5 d0 d1 d2 0 0) (val5 w0 w1 w2 w3 0) q b3 x.fst x.snd.fst (x.2.2 0) (x.2.2 1) (x.2.2 2) (x.2.2 3) 0 ∧ Tp qq bb g0 g1 g2 g3 x ∧ (115792089237316195423570985008687907853269984665640564039457584007913129639936 - (val5 (x.2.2 0) (x.2.2 1) (x.2.2 2) (x.2.2 3) 0 - x.snd.fst * 115792089237316195423570985008687907853269984665640564039457584007913129639936)).toNat < (115792089237316195423570985008687907853269984665640564039457584007913129639936 - (val5 (p.2.2 0) (p.2.2 1) (p.2.2 2) (p.2.2 3) 0 - p.snd.fst * 115792089237316195423570985008687907853269984665640564039457584007913129639936)).toNat) ∧ (vb = false → ∃ x : Int × (Nat → Int), divR 6277101735386680763835789423207666416102355444464034512896 (val5 d0 d1 d2 0 0) (val5 u0 u1 u2 u3 0) x.fst (x.2 0) (x.2 1) (x.2 2) (x.2 3) 0 ∧ Td p x) := by
  have qe := qest_in (d := d2) hu3 hu2 hn hd2.2
  rintro v rfl
  refine ⟨⟨fun e => ⟨⟨hu3, hu2, hd2, of_decide_eq_true e⟩, fun q hq r hr => ⟨q, by rw [hq]; unfold qestF; rw [if_pos (of_decide_eq_true e)], tq q⟩⟩, fun e => ⟨_, by unfold qestF; rw [if_neg (of_decide_eq_false e)], tq _⟩⟩, fun q hq => ?_⟩
  rw [← hq] at qe
  obtain ⟨qr, qlo⟩ := qe
  refine takeStep qr hd0 hu0 (show (0 : Int) ≤ 0 ∧ (0 : Int) ≤ 18446744073709551615 by omega) (show (0 : Int) ≤ 0 ∧ (0 : Int) ≤ 1 by omega) (fun c0 w0 b0 e0 rc0 rw0 rb0 => ?_)
  refine takeStep qr hd1 hu1 rc0 rb0 (fun c1 w1 b1 e1 rc1 rw1 rb1 => ?_)
  refine takeStep qr hd2 hu2 rc1 rb1 (fun c2 w2 b2 e2 rc2 rw2 rb2 => ?_)
  refine ⟨⟨hu3, rc2, rb2.1, rb2.2⟩, fun w3 hw b3 hb => ?_⟩
  obtain ⟨e3, w03, w13, bl, bh⟩ := subW hu3 rc2 rb2.1 rb2.2 hw hb
  have hqd : q * (val5 d0 d1 d2 0 0) = q * d0 * 1 + q * d1 * 18446744073709551616 + q * d2 * 340282366920938463463374607431768211456 := by unfold val5 val4; grind
  have hsum : (val5 w0 w1 w2 w3 0) - b3 * 115792089237316195423570985008687907853269984665640564039457584007913129639936 + q * (val5 d0 d1 d2 0 0) = (val5 u0 u1 u2 u3 0) := by
    rw [hqd]
    generalize q * d0 = P0 at *
    generalize q * d1 = P1 at *
    generalize q * d2 = P2 at *
    unfold val5 val4
    omega
  have hD : 0 ≤ (val5 d0 d1 d2 0 0) := by unfold val5 val4; omega
  have hU0 : 0 ≤ (val5 u0 u1 u2 u3 0) := by unfold val5 val4; omega
  have hD1 : 0 < (val5 d0 d1 d2 0 0) := by unfold val5 val4; omega
  have hDB : (val5 d0 d1 d2 0 0) < 6277101735386680763835789423207666416102355444464034512896 := by unfold val5 val4; omega
  have hest : (val5 u0 u1 u2 u3 0) < q * (val5 d0 d1 d2 0 0) + (val5 d0 d1 d2 0 0) := quo_est3 hu0 hu1 hu2 hu3 hd0 hd1 hd2 hn qr qlo hlt
  refine ⟨⟨(q, b3, (fun j => match j with | 0 => w0 | 1 => w1 | 2 => w2 | _ => w3)), ⟨⟨rfl, by simp only; omega⟩, rw0, rw1, rw2, ⟨w03, w13⟩, ⟨by omega, by omega⟩, qr, bl, bh⟩, tp _ _ _ _ _ _ _ rfl rfl rfl rfl⟩, ?_⟩
  rintro ⟨q', b', f⟩ ⟨⟨k1, k2⟩, x0, x1, x2, x3, _, rq, rb0, rb1⟩
  simp only at k1 k2 rq rb0 rb1 x0 x1 x2 x3
  rw [hsum] at k1
  refine brE (fun eb => ?_) fun eb => ?_
  · refine ⟨⟨x0, hd0, by omega, by omega⟩, fun g0 hg0 k0 hk0 => ?_⟩
    obtain ⟨y0, yl0, yh0, zl0, zh0⟩ := addW x0 hd0 (show (0 : Int) ≤ 0 by omega) (show (0 : Int) ≤ 1 by omega) hg0 hk0
    refine ⟨⟨x1, hd1, by omega, by omega⟩, fun g1 hg1 k1 hk1 => ?_⟩
    obtain ⟨y1, yl1, yh1, zl1, zh1⟩ := addW x1 hd1 zl0 zh0 hg1 hk1
    refine ⟨⟨x2, hd2, by omega, by omega⟩, fun g2 hg2 k2 hk2 => ?_⟩
    obtain ⟨y2, yl2, yh2, zl2, zh2⟩ := addW x2 hd2 zl1 zh1 hg2 hk2
    refine ⟨⟨x3, (show (0 : Int) ≤ 0 ∧ (0 : Int) ≤ 18446744073709551615 by omega), by omega, by omega⟩, fun g3 hg3 k3 hk3 => ?_⟩
    obtain ⟨y3, yl3, yh3, zl3, zh3⟩ := addW x3 (show (0 : Int) ≤ 0 ∧ (0 : Int) ≤ 18446744073709551615 by omega) zl2 zh2 hg3 hk3
    simp only at eb
    intro bb hbb qq hqq
    simp only at hbb hqq y0 y1 y2 y3
    have hg : (val5 g0 g1 g2 g3 0) + k3 * 115792089237316195423570985008687907853269984665640564039457584007913129639936 = (val5 (f 0) (f 1) (f 2) (f 3) 0) + (val5 d0 d1 d2 0 0) := by unfold val5 val4; omega
    have hf0 : 0 ≤ (val5 (f 0) (f 1) (f 2) (f 3) 0) ∧ (val5 (f 0) (f 1) (f 2) (f 3) 0) < 115792089237316195423570985008687907853269984665640564039457584007913129639936 := by unfold val5 val4; omega
    have hq1 : 1 ≤ q' := by
      rcases Int.lt_or_le 0 q' with h | h
      · omega
      · have : q' = 0 := by omega
        subst this
        omega
    rw [w_u64] at hbb hqq
    have hbb' : bb = b' - k3 := by omega
    have hqq' : qq = q' - 1 := by omega
    have hqm : (q' - 1) * (val5 d0 d1 d2 0 0) = q' * (val5 d0 d1 d2 0 0) - (val5 d0 d1 d2 0 0) := by rw [Int.sub_mul, Int.one_mul]
    refine ⟨(qq, bb, (fun j => match j with | 0 => g0 | 1 => g1 | 2 => g2 | _ => g3)), ⟨⟨?_, ?_⟩, ⟨yl0, yh0⟩, ⟨yl1, yh1⟩, ⟨yl2, yh2⟩, ⟨yl3, yh3⟩, ⟨by omega, by omega⟩, ⟨by simp only; omega, by simp only; omega⟩, by simp only; omega, by simp only; omega⟩, tp _ _ _ _ _ _ _ rfl rfl rfl rfl, ?_⟩
    · simp only
      rw [hsum, hqq', hqm, hbb']
      omega
    · simp only
      omega
    · simp only
      omega
  · simp only at eb
    have hb0 : b' = 0 := by omega
    subst hb0
    exact ⟨(q', f), ⟨⟨by simp only; omega, by simp only; omega⟩, x0, x1, x2, x3, ⟨by omega, by omega⟩, rq⟩, td _ _ _⟩
theorem quo_est4 {q u0 u1 u2 u3 u4 d0 d1 d2 d3 : Int} (hu0 : 0 ≤ u0 ∧ u0 ≤ 18446744073709551615) (hu1 : 0 ≤ u1 ∧ u1 ≤ 18446744073709551615) (hu2 : 0 ≤ u2 ∧ u2 ≤ 18446744073709551615) (hu3 : 0 ≤ u3 ∧ u3 ≤ 18446744073709551615) (hu4 : 0 ≤ u4 ∧ u4 ≤ 18446744073709551615) (hd0 : 0 ≤ d0 ∧ d0 ≤ 18446744073709551615) (hd1 : 0 ≤ d1 ∧ d1 ≤ 18446744073709551615) (hd2 : 0 ≤ d2 ∧ d2 ≤ 18446744073709551615) (hd3 : 0 ≤ d3 ∧ d3 ≤ 18446744073709551615) (hn : 9223372036854775808 ≤ d3) (qr : 0 ≤ q ∧ q ≤ 18446744073709551615) (qlo : q = 18446744073709551615 ∨ u4 * 18446744073709551616 + u3 < (q + 1) * d3) (hlt : (val5 u0 u1 u2 u3 u4) < (val5 d0 d1 d2 d3 0) * 18446744073709551616) : (val5 u0 u1 u2 u3 u4) < q * (val5 d0 d1 d2 d3 0) + (val5 d0 d1 d2 d3 0) := by
  rcases qlo with e | e
  · rw [e]; omega
  · have k : (q + 1) * d3 * 6277101735386680763835789423207666416102355444464034512896 ≤ q * (val5 d0 d1 d2 d3 0) + (val5 d0 d1 d2 d3 0) := by
      have a : q * (val5 d0 d1 d2 d3 0) + (val5 d0 d1 d2 d3 0) = (q + 1) * d3 * 6277101735386680763835789423207666416102355444464034512896 + (q + 1) * (d0 * 1 + d1 * 18446744073709551616 + d2 * 340282366920938463463374607431768211456) := by unfold val5 val4; grind
      have b : 0 ≤ (q + 1) * (d0 * 1 + d1 * 18446744073709551616 + d2 * 340282366920938463463374607431768211456) := Int.mul_nonneg (by omega) (by omega)
      omega
    have c : u4 * 18446744073709551616 + u3 ≤ (q + 1) * d3 - 1 := by omega
    have d := Int.mul_le_mul_of_nonneg_right c (show (0 : Int) ≤ 6277101735386680763835789423207666416102355444464034512896 by omega)
    have e : ((q + 1) * d3 - 1) * 6277101735386680763835789423207666416102355444464034512896 = (q + 1) * d3 * 6277101735386680763835789423207666416102355444464034512896 - 6277101735386680763835789423207666416102355444464034512896 := by grind
    have f : (val5 u0 u1 u2 u3 u4) < (u4 * 18446744073709551616 + u3) * 6277101735386680763835789423207666416102355444464034512896 + 6277101735386680763835789423207666416102355444464034512896 := by unfold val5 val4; omega
    omega
theorem part4 {u0 u1 u2 u3 u4 d0 d1 d2 d3 : Int} {Tq : Int → Int → Prop} {Tp : Int → Int → Int → Int → Int → Int → Int → (Int × Int × (Nat → Int)) → Prop} {Td : (Int × Int × (Nat → Int)) → (Int × (Nat → Int)) → Prop}
    (hu0 : 0 ≤ u0 ∧ u0 ≤ 18446744073709551615) (hu1 : 0 ≤ u1 ∧ u1 ≤ 18446744073709551615) (hu2 : 0 ≤ u2 ∧ u2 ≤ 18446744073709551615) (hu3 : 0 ≤ u3 ∧ u3 ≤ 18446744073709551615) (hu4 : 0 ≤ u4 ∧ u4 ≤ 18446744073709551615) (hd0 : 0 ≤ d0 ∧ d0 ≤ 18446744073709551615) (hd1 : 0 ≤ d1 ∧ d1 ≤ 18446744073709551615) (hd2 : 0 ≤ d2 ∧ d2 ≤ 18446744073709551615) (hd3 : 0 ≤ d3 ∧ d3 ≤ 18446744073709551615) (hn : 9223372036854775808 ≤ d3) (hlt : (val5 u0 u1 u2 u3 u4) < (val5 d0 d1 d2 d3 0) * 18446744073709551616)
    (tq : ∀ q, Tq q q) (tp : ∀ q b w0 w1 w2 w3 w4 (f : Nat → Int), f 0 = w0 → f 1 = w1 → f 2 = w2 → f 3 = w3 → f 4 = w4 → Tp q b w0 w1 w2 w3 w4 (q, b, f)) (td : ∀ q b (f : Nat → Int), Td (q, b, f) (q, f)) :
    ∀ v : Bool, v = decide (u4 < d3) → ((v = true → (U64 u4 ∧ U64 u3 ∧ U64 d3 ∧ u4 < d3) ∧ ∀ q : Int, q = (u4 * 18446744073709551616 + u3) / d3 → ∀ r : Int, r = (u4 * 18446744073709551616 + u3) % d3 → ∃ x : Int, x = qestF u4 u3 d3 ∧ Tq q x) ∧
      (v = false → ∃ x : Int, x = qestF u4 u3 d3 ∧ Tq 18446744073709551615 x)) ∧ ∀ q : Int, q = qestF u4 u3 d3 → (U64 q ∧ U64 d0) ∧ ∀ vh0 : Int, vh0 = q * d0 / 18446744073709551616 → ∀ vl0 : Int, vl0 = q * d0 % 18446744073709551616 → (U64 vl0 ∧ U64 (0) ∧ (0 : Int) ≤ 0 ∧ (0 : Int) ≤ 1) ∧ ∀ vs0 : Int, vs0 = s64 vl0 (0) 0 → ∀ vc0 : Int, vc0 = c64 vl0 (0) 0 → ∀ c0 : Int, c0 = IntKind.u64.wrap (vh0 + vc0) → (U64 u0 ∧ U64 vs0 ∧ (0 : Int) ≤ 0 ∧ 0 ≤ (1 : Int)) ∧ ∀ w0 : Int, w0 = d64 u0 vs0 (0) → ∀ b0 : Int, b0 = b64 u0 vs0 (0) → (U64 q ∧ U64 d1) ∧ ∀ vh1 : Int, vh1 = q * d1 / 18446744073709551616 → ∀ vl1 : Int, vl1 = q * d1 % 18446744073709551616 → (U64 vl1 ∧ U64 (c0) ∧ (0 : Int) ≤ 0 ∧ (0 : Int) ≤ 1) ∧ ∀ vs1 : Int, vs1 = s64 vl1 (c0) 0 → ∀ vc1 : Int, vc1 = c64 vl1 (c0) 0 → ∀ c1 : Int, c1 = IntKind.u64.wrap (vh1 + vc1) → (U64 u1 ∧ U64 vs1 ∧ (0 : Int) ≤ b0 ∧ b0 ≤ (1 : Int)) ∧ ∀ w1 : Int, w1 = d64 u1 vs1 (b0) → ∀ b1 : Int, b1 = b64 u1 vs1 (b0) → (U64 q ∧ U64 d2) ∧ ∀ vh2 : Int, vh2 = q * d2 / 18446744073709551616 → ∀ vl2 : Int, vl2 = q * d2 % 18446744073709551616 → (U64 vl2 ∧ U64 (c1) ∧ (0 : Int) ≤ 0 ∧ (0 : Int) ≤ 1) ∧ ∀ vs2 : Int, vs2 = s64 vl2 (c1) 0 → ∀ vc2 : Int, vc2 = c64 vl2 (c1) 0 → ∀ c2 : Int, c2 = IntKind.u64.wrap (vh2 + vc2) → (U64 u2 ∧ U64 vs2 ∧ (0 : Int) ≤ b1 ∧ b1 ≤ (1 : Int)) ∧ ∀ w2 : Int, w2 = d64 u2 vs2 (b1) → ∀ b2 : Int, b2 = b64 u2 vs2 (b1) → (U64 q ∧ U64 d3) ∧ ∀ vh3 : Int, vh3 = q * d3 / 18446744073709551616 → ∀ vl3 : Int, vl3 = q * d3 % 18446744073709551616 → (U64 vl3 ∧ U64 (c2) ∧ (0 : Int) ≤ 0 ∧ (0 : Int) ≤ 1) ∧ ∀ vs3 : Int, vs3 = s64 vl3 (c2) 0 → ∀ vc3 : Int, vc3 = c64 vl3 (c2) 0 → ∀ c3 : Int, c3 = IntKind.u64.wrap (vh3 + vc3) → (U64 u3 ∧ U64 vs3 ∧ (0 : Int) ≤ b2 ∧ b2 ≤ (1 : Int)) ∧ ∀ w3 : Int, w3 = d64 u3 vs3 (b2) → ∀ b3 : Int, b3 = b64 u3 vs3 (b2) → (U64 u4 ∧ U64 c3 ∧ (0 : Int) ≤ b3 ∧ b3 ≤ (1 : Int)) ∧ ∀ w4 : Int, w4 = d64 u4 c3 b3 → ∀ b4 : Int, b4 = b64 u4 c3 b3 → (∃ x : Int × Int × (Nat → Int), partR 2135987035920910082395021706169552114602704522356652769947041607822219725780640550022962086936576 (val5 d0 d1 d2 d3 0) (val5 w0 w1 w2 w3 w4) q b4 x.fst x.snd.fst (x.2.2 0) (x.2.2 1) (x.2.2 2) (x.2.2 3) (x.2.2 4) ∧ Tp q b4 w0 w1 w2 w3 w4 x) ∧ ∀ p : Int × Int × (Nat → Int), partR 2135987035920910082395021706169552114602704522356652769947041607822219725780640550022962086936576 (val5 d0 d1 d2 d3 0) (val5 w0 w1 w2 w3 w4) q b4 p.fst p.snd.fst (p.2.2 0) (p.2.2 1) (p.2.2 2) (p.2.2 3) (p.2.2 4) → ∀ vb : Bool, vb = (p.snd.fst == 1) → (vb = true → (U64 (p.snd.snd 0) ∧ U64 d0 ∧ (0 : Int) ≤ 0 ∧ 0 ≤ (1 : Int)) ∧ ∀ g0 : Int, g0 = s64 (p.snd.snd 0) d0 0 → ∀ k0 : Int, k0 = c64 (p.snd.snd 0) d0 0 → (U64 (p.snd.snd 1) ∧ U64 d1 ∧ (0 : Int) ≤ k0 ∧ k0 ≤ (1 : Int)) ∧ ∀ g1 : Int, g1 = s64 (p.snd.snd 1) d1 k0 → ∀ k1 : Int, k1 = c64 (p.snd.snd 1) d1 k0 → (U64 (p.snd.snd 2) ∧ U64 d2 ∧ (0 : Int) ≤ k1 ∧ k1 ≤ (1 : Int)) ∧ ∀ g2 : Int, g2 = s64 (p.snd.snd 2) d2 k1 → ∀ k2 : Int, k2 = c64 (p.snd.snd 2) d2 k1 → (U64 (p.snd.snd 3) ∧ U64 d3 ∧ (0 : Int) ≤ k2 ∧ k2 ≤ (1 : Int)) ∧ ∀ g3 : Int, g3 = s64 (p.snd.snd 3) d3 k2 → ∀ k3 : Int, k3 = c64 (p.snd.snd 3) d3 k2 → (U64 (p.snd.snd 4) ∧ U64 (0 : Int) ∧ (0 : Int) ≤ k3 ∧ k3 ≤ (1 : Int)) ∧ ∀ g4 : Int, g4 = s64 (p.snd.snd 4) 0 k3 → ∀ k4 : Int, k4 = c64 (p.snd.snd 4) 0 k3 → ∀ bb : Int, bb = IntKind.u64.wrap (p.snd.fst - k4) → ∀ qq : Int, qq = IntKind.u64.wrap (p.fst - 1) → ∃ x : Int × Int × (Nat → Int), partR 2135987035920910082395021706169552114602704522356652769947041607822219725780640550022962086936576 (val5 d0 d1 d2 d3 0) (val5 w0 w1 w2 w3 w4) q b4 x.fst x.snd.fst (x.2.2 0) (x.2.2 1) (x.2.2 2) (x.2.2 3) (x.2.2 4) ∧ Tp qq bb g0 g1 g2 g3 g4 x ∧ (2135987035920910082395021706169552114602704522356652769947041607822219725780640550022962086936576 - (val5 (x.2.2 0) (x.2.2 1) (x.2.2 2) (x.2.2 3) (x.2.2 4) - x.snd.fst * 2135987035920910082395021706169552114602704522356652769947041607822219725780640550022962086936576)).toNat < (2135987035920910082395021706169552114602704522356652769947041607822219725780640550022962086936576 - (val5 (p.2.2 0) (p.2.2 1) (p.2.2 2) (p.2.2 3) (p.2.2 4) - p.snd.fst * 2135987035920910082395021706169552114602704522356652769947041607822219725780640550022962086936576)).toNat) ∧ (vb = false → ∃ x : Int × (Nat → Int), divR 115792089237316195423570985008687907853269984665640564039457584007913129639936 (val5 d0 d1 d2 d3 0) (val5 u0 u1 u2 u3 u4) x.fst (x.2 0) (x.2 1) (x.2 2) (x.2 3) (x.2 4) ∧ Td p x) := by
  have qe := qest_in (d := d3) hu4 hu3 hn hd3.2
  rintro v rfl
  refine ⟨⟨fun e => ⟨⟨hu4, hu3, hd3, of_decide_eq_true e⟩, fun q hq r hr => ⟨q, by rw [hq]; unfold qestF; rw [if_pos (of_decide_eq_true e)], tq q⟩⟩, fun e => ⟨_, by unfold qestF; rw [if_neg (of_decide_eq_false e)], tq _⟩⟩, fun q hq => ?_⟩
  rw [← hq] at qe
  obtain ⟨qr, qlo⟩ := qe
  refine takeStep qr hd0 hu0 (show (0 : Int) ≤ 0 ∧ (0 : Int) ≤ 18446744073709551615 by omega) (show (0 : Int) ≤ 0 ∧ (0 : Int) ≤ 1 by omega) (fun c0 w0 b0 e0 rc0 rw0 rb0 => ?_)
  refine takeStep qr hd1 hu1 rc0 rb0 (fun c1 w1 b1 e1 rc1 rw1 rb1 => ?_)
  refine takeStep qr hd2 hu2 rc1 rb1 (fun c2 w2 b2 e2 rc2 rw2 rb2 => ?_)
  refine takeStep qr hd3 hu3 rc2 rb2 (fun c3 w3 b3 e3 rc3 rw3 rb3 => ?_)
  refine ⟨⟨hu4, rc3, rb3.1, rb3.2⟩, fun w4 hw b4 hb => ?_⟩
  obtain ⟨e4, w04, w14, bl, bh⟩ := subW hu4 rc3 rb3.1 rb3.2 hw hb
  have hqd : q * (val5 d0 d1 d2 d3 0) = q * d0 * 1 + q * d1 * 18446744073709551616 + q * d2 * 340282366920938463463374607431768211456 + q * d3 * 6277101735386680763835789423207666416102355444464034512896 := by unfold val5 val4; grind
  have hsum : (val5 w0 w1 w2 w3 w4) - b4 * 2135987035920910082395021706169552114602704522356652769947041607822219725780640550022962086936576 + q * (val5 d0 d1 d2 d3 0) = (val5 u0 u1 u2 u3 u4) := by
    rw [hqd]
    generalize q * d0 = P0 at *
    generalize q * d1 = P1 at *
    generalize q * d2 = P2 at *
    generalize q * d3 = P3 at *
    unfold val5 val4
    omega
  have hD : 0 ≤ (val5 d0 d1 d2 d3 0) := by unfold val5 val4; omega
  have hU0 : 0 ≤ (val5 u0 u1 u2 u3 u4) := by unfold val5 val4; omega
  have hD1 : 0 < (val5 d0 d1 d2 d3 0) := by unfold val5 val4; omega
  have hDB : (val5 d0 d1 d2 d3 0) < 115792089237316195423570985008687907853269984665640564039457584007913129639936 := by unfold val5 val4; omega
  have hest : (val5 u0 u1 u2 u3 u4) < q * (val5 d0 d1 d2 d3 0) + (val5 d0 d1 d2 d3 0) := quo_est4 hu0 hu1 hu2 hu3 hu4 hd0 hd1 hd2 hd3 hn qr qlo hlt
  refine ⟨⟨(q, b4, (fun j => match j with | 0 => w0 | 1 => w1 | 2 => w2 | 3 => w3 | _ => w4)), ⟨⟨rfl, by simp only; omega⟩, rw0, rw1, rw2, rw3, ⟨w04, w14⟩, qr, bl, bh⟩, tp _ _ _ _ _ _ _ _ rfl rfl rfl rfl rfl⟩, ?_⟩
  rintro ⟨q', b', f⟩ ⟨⟨k1, k2⟩, x0, x1, x2, x3, x4, rq, rb0, rb1⟩
  simp only at k1 k2 rq rb0 rb1 x0 x1 x2 x3 x4
  rw [hsum] at k1
  refine brE (fun eb => ?_) fun eb => ?_
  · refine ⟨⟨x0, hd0, by omega, by omega⟩, fun g0 hg0 k0 hk0 => ?_⟩
    obtain ⟨y0, yl0, yh0, zl0, zh0⟩ := addW x0 hd0 (show (0 : Int) ≤ 0 by omega) (show (0 : Int) ≤ 1 by omega) hg0 hk0
    refine ⟨⟨x1, hd1, by omega, by omega⟩, fun g1 hg1 k1 hk1 => ?_⟩
    obtain ⟨y1, yl1, yh1, zl1, zh1⟩ := addW x1 hd1 zl0 zh0 hg1 hk1
    refine ⟨⟨x2, hd2, by omega, by omega⟩, fun g2 hg2 k2 hk2 => ?_⟩
    obtain ⟨y2, yl2, yh2, zl2, zh2⟩ := addW x2 hd2 zl1 zh1 hg2 hk2
    refine ⟨⟨x3, hd3, by omega, by omega⟩, fun g3 hg3 k3 hk3 => ?_⟩
    obtain ⟨y3, yl3, yh3, zl3, zh3⟩ := addW x3 hd3 zl2 zh2 hg3 hk3
    refine ⟨⟨x4, (show (0 : Int) ≤ 0 ∧ (0 : Int) ≤ 18446744073709551615 by omega), by omega, by omega⟩, fun g4 hg4 k4 hk4 => ?_⟩
    obtain ⟨y4, yl4, yh4, zl4, zh4⟩ := addW x4 (show (0 : Int) ≤ 0 ∧ (0 : Int) ≤ 18446744073709551615 by omega) zl3 zh3 hg4 hk4
    simp only at eb
    intro bb hbb qq hqq
    simp only at hbb hqq y0 y1 y2 y3 y4
    have hg : (val5 g0 g1 g2 g3 g4) + k4 * 2135987035920910082395021706169552114602704522356652769947041607822219725780640550022962086936576 = (val5 (f 0) (f 1) (f 2) (f 3) (f 4)) + (val5 d0 d1 d2 d3 0) := by unfold val5 val4; omega
    have hf0 : 0 ≤ (val5 (f 0) (f 1) (f 2) (f 3) (f 4)) ∧ (val5 (f 0) (f 1) (f 2) (f 3) (f 4)) < 2135987035920910082395021706169552114602704522356652769947041607822219725780640550022962086936576 := by unfold val5 val4; omega
    have hq1 : 1 ≤ q' := by
      rcases Int.lt_or_le 0 q' with h | h
      · omega
      · have : q' = 0 := by omega
        subst this
        omega
    rw [w_u64] at hbb hqq
    have hbb' : bb = b' - k4 := by omega
    have hqq' : qq = q' - 1 := by omega
    have hqm : (q' - 1) * (val5 d0 d1 d2 d3 0) = q' * (val5 d0 d1 d2 d3 0) - (val5 d0 d1 d2 d3 0) := by rw [Int.sub_mul, Int.one_mul]
    refine ⟨(qq, bb, (fun j => match j with | 0 => g0 | 1 => g1 | 2 => g2 | 3 => g3 | _ => g4)), ⟨⟨?_, ?_⟩, ⟨yl0, yh0⟩, ⟨yl1, yh1⟩, ⟨yl2, yh2⟩, ⟨yl3, yh3⟩, ⟨yl4, yh4⟩, ⟨by simp only; omega, by simp only; omega⟩, by simp only; omega, by simp only; omega⟩, tp _ _ _ _ _ _ _ _ rfl rfl rfl rfl rfl, ?_⟩
    · simp only
      rw [hsum, hqq', hqm, hbb']
      omega
    · simp only
      omega
    · simp only
      omega
  · simp only at eb
    have hb0 : b' = 0 := by omega
    subst hb0
    exact ⟨(q', f), ⟨⟨by simp only; omega, by simp only; omega⟩, x0, x1, x2, x3, x4, rq⟩, td _ _ _⟩
end Go.Proofs.Ytaaobpalpcdlbaa.Bits
