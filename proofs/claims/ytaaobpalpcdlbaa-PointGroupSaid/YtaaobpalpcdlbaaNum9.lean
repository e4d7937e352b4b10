import Derived.Test.YtaaobpalpcdlbaaNum8
namespace Go.Proofs.Ytaaobpalpcdlbaa.Bits
open Go Go.Sx Go.RowKit
set_option linter.unusedVariables false
set_option maxRecDepth 100000
set_option maxHeartbeats 4000000 in
theorem pureDiv (lo0 lo1 lo2 lo3 hi0 hi1 hi2 hi3 m0 m1 m2 m3 : Int) (h : U64 lo0 ∧ U64 lo1 ∧ U64 lo2 ∧ U64 lo3 ∧ U64 hi0 ∧ U64 hi1 ∧ U64 hi2 ∧ U64 hi3 ∧ U64 m0 ∧ U64 m1 ∧ U64 m2 ∧ U64 m3) : VCDiv lo0 lo1 lo2 lo3 hi0 hi1 hi2 hi3 m0 m1 m2 m3 := by
  obtain ⟨hl0, hl1, hl2, hl3, hh0, hh1, hh2, hh3, hm0, hm1, hm2, hm3⟩ := h
  have n0 : 0 ≤ (0 : Int) ∧ (0 : Int) ≤ 18446744073709551615 := by omega
  have hml := val4_lt hm0 hm1 hm2 hm3
  refine ⟨⟨hm0, hm1, hm2, hm3⟩, fun v1 h1 => brE (fun e => ?_) fun e => ?_⟩
  · have hM : val4 m0 m1 m2 m3 = 0 := by
      rcases Int.lt_or_le 0 (val4 m0 m1 m2 m3) with c | c
      · obtain ⟨k, ek, _⟩ := lenF_spec c
        omega
      · omega
    have q0 : qF (val4 lo0 lo1 lo2 lo3) (val4 hi0 hi1 hi2 hi3) (val4 m0 m1 m2 m3) = 0 := by unfold qF; rw [if_pos hM]
    have r0 : rF (val4 lo0 lo1 lo2 lo3) (val4 hi0 hi1 hi2 hi3) (val4 m0 m1 m2 m3) = 0 := by unfold rF; rw [if_pos hM]
    rw [q0, r0]
    simp [limb, hM, qF]
  · have hM0 : 0 < val4 m0 m1 m2 m3 := by
      rcases Int.lt_or_le 0 (val4 m0 m1 m2 m3) with c | c
      · exact c
      · exfalso
        apply e
        rw [h1]; unfold lenF; rw [if_pos c]
    have hb := lenF_bound (x := val4 m0 m1 m2 m3) (by omega) 256 (by have := hml.2; exact this)
    have hp : 1 ≤ v1 := by obtain ⟨k, ek, _⟩ := lenF_spec hM0; omega
    intro v3 h3 v4 h4
    rw [i64_id (by omega) (by omega)] at h3
    rw [tdiv_nonneg (by omega), i64_id (by omega) (by omega)] at h4
    refine ⟨by omega, fun e4 => ?_, fun e4 => ?_, fun e4 => ?_, fun e4 => ?_, trivial⟩
    · intro v5 h5
      rw [i64_id (by omega) (by omega)] at h5
      obtain ⟨s, hs⟩ := Int.eq_ofNat_of_zero_le (show 0 ≤ v5 by omega)
      subst hs
      have hs63 : s ≤ 63 := by omega
      obtain ⟨nm1, nm2⟩ := norm 1 (s := s) hM0 (by omega)
      rw [show (2 : Int) ^ (64 * 1 - 1) = 9223372036854775808 from rfl] at nm1
      rw [show (2 : Int) ^ (64 * 1) = 18446744073709551616 from rfl] at nm2
      refine ⟨⟨hm0, hm1, hm2, hm3, n0, n0, n0, n0, ⟨by omega, by omega⟩, by omega, by omega⟩, ?_⟩
      intro d0 g0 d1 g1 d2 g2 d3 g3 d4 g4 d5 g5 d6 g6 d7 g7 d8 g8
      simp only [Int.toNat_natCast] at g0 g1 g2 g3 g4 g5 g6 g7 g8
      have sd := sval (l0 := m0) (l1 := m1) (l2 := m2) (l3 := m3) (l4 := 0) (l5 := 0) (l6 := 0) (l7 := 0) hs63
      rw [show val8 m0 m1 m2 m3 0 0 0 0 = val4 m0 m1 m2 m3 by unfold val8 val4; omega] at sd
      have rd0 := shw_in (l := m0) (m := 0) hm0 n0 hs63
      rw [← g0] at rd0 sd
      have rd1 := shw_in (l := m1) (m := m0) hm1 hm0 hs63
      rw [← g1] at rd1 sd
      have rd2 := shw_in (l := m2) (m := m1) hm2 hm1 hs63
      rw [← g2] at rd2 sd
      have rd3 := shw_in (l := m3) (m := m2) hm3 hm2 hs63
      rw [← g3] at rd3 sd
      have rd4 := shw_in (l := 0) (m := m3) n0 hm3 hs63
      rw [← g4] at rd4 sd
      have z0 : shw 0 0 s = 0 := by unfold shw; simp
      rw [z0] at sd g5 g6 g7 g8
      have hD : val5 d0 0 0 0 0 = val4 m0 m1 m2 m3 * 2 ^ s ∧ 9223372036854775808 ≤ d0 := by
        generalize val4 m0 m1 m2 m3 * 2 ^ s = Z at *
        unfold val5 val4 at *
        omega
      obtain ⟨hD, hdn⟩ := hD
      refine ⟨⟨hl0, hl1, hl2, hl3, hh0, hh1, hh2, hh3, ⟨by omega, by omega⟩, by omega, by omega⟩, ?_⟩
      intro u0 j0 u1 j1 u2 j2 u3 j3 u4 j4 u5 j5 u6 j6 u7 j7 u8 j8
      simp only [Int.toNat_natCast] at j0 j1 j2 j3 j4 j5 j6 j7 j8
      have su := sval (l0 := lo0) (l1 := lo1) (l2 := lo2) (l3 := lo3) (l4 := hi0) (l5 := hi1) (l6 := hi2) (l7 := hi3) hs63
      have ru0 := shw_in (l := lo0) (m := 0) hl0 n0 hs63
      rw [← j0] at ru0 su
      have ru1 := shw_in (l := lo1) (m := lo0) hl1 hl0 hs63
      rw [← j1] at ru1 su
      have ru2 := shw_in (l := lo2) (m := lo1) hl2 hl1 hs63
      rw [← j2] at ru2 su
      have ru3 := shw_in (l := lo3) (m := lo2) hl3 hl2 hs63
      rw [← j3] at ru3 su
      have ru4 := shw_in (l := hi0) (m := lo3) hh0 hl3 hs63
      rw [← j4] at ru4 su
      have ru5 := shw_in (l := hi1) (m := hi0) hh1 hh0 hs63
      rw [← j5] at ru5 su
      have ru6 := shw_in (l := hi2) (m := hi1) hh2 hh1 hs63
      rw [← j6] at ru6 su
      have ru7 := shw_in (l := hi3) (m := hi2) hh3 hh2 hs63
      rw [← j7] at ru7 su
      have ru8 := shw_in (l := 0) (m := hi3) n0 hh3 hs63
      rw [← j8] at ru8 su
      have ht : u8 < 9223372036854775808 := by
        have a := high_lt hh3 hs63
        have b : (2 : Int) ^ s ≤ 2 ^ 63 := by have := Nat.pow_le_pow_right (show 0 < 2 by omega) hs63; exact_mod_cast this
        rw [show (2 : Int) ^ 63 = 9223372036854775808 from rfl] at b
        rw [j8]; unfold shw; rw [show (0 : Int) * 2 ^ s % 18446744073709551616 = 0 by simp]; omega
      clear g0 g1 g2 g3 g4 g5 g6 g7 g8 j0 j1 j2 j3 j4 j5 j6 j7 j8 sd
      refine ⟨part1 ru7 ru8 rd0 hdn (show val5 u7 u8 0 0 0 < (val5 d0 0 0 0 0) * 18446744073709551616 by unfold val5 val4; omega) ?_ ?_ ?_, ?_⟩
      · intro q; simp
      · intro q b w0 w1 f h0 h1; simp [h0, h1]
      · intro q b f; simp
      rintro ⟨q7, f7⟩ ⟨⟨e7, l7⟩, x7_0, x7_1, _, _, _, rq7⟩
      simp only at e7 l7 rq7 x7_0 x7_1
      refine ⟨part1 ru6 x7_0 rd0 hdn (show val5 u6 (f7 0) 0 0 0 < (val5 d0 0 0 0 0) * 18446744073709551616 by unfold val5 val4 at l7 ⊢; omega) ?_ ?_ ?_, ?_⟩
      · intro q; simp
      · intro q b w0 w1 f h0 h1; simp [h0, h1]
      · intro q b f; simp
      rintro ⟨q6, f6⟩ ⟨⟨e6, l6⟩, x6_0, x6_1, _, _, _, rq6⟩
      simp only at e6 l6 rq6 x6_0 x6_1
      refine ⟨part1 ru5 x6_0 rd0 hdn (show val5 u5 (f6 0) 0 0 0 < (val5 d0 0 0 0 0) * 18446744073709551616 by unfold val5 val4 at l6 ⊢; omega) ?_ ?_ ?_, ?_⟩
      · intro q; simp
      · intro q b w0 w1 f h0 h1; simp [h0, h1]
      · intro q b f; simp
      rintro ⟨q5, f5⟩ ⟨⟨e5, l5⟩, x5_0, x5_1, _, _, _, rq5⟩
      simp only at e5 l5 rq5 x5_0 x5_1
      refine ⟨part1 ru4 x5_0 rd0 hdn (show val5 u4 (f5 0) 0 0 0 < (val5 d0 0 0 0 0) * 18446744073709551616 by unfold val5 val4 at l5 ⊢; omega) ?_ ?_ ?_, ?_⟩
      · intro q; simp
      · intro q b w0 w1 f h0 h1; simp [h0, h1]
      · intro q b f; simp
      rintro ⟨q4, f4⟩ ⟨⟨e4, l4⟩, x4_0, x4_1, _, _, _, rq4⟩
      simp only at e4 l4 rq4 x4_0 x4_1
      refine ⟨part1 ru3 x4_0 rd0 hdn (show val5 u3 (f4 0) 0 0 0 < (val5 d0 0 0 0 0) * 18446744073709551616 by unfold val5 val4 at l4 ⊢; omega) ?_ ?_ ?_, ?_⟩
      · intro q; simp
      · intro q b w0 w1 f h0 h1; simp [h0, h1]
      · intro q b f; simp
      rintro ⟨q3, f3⟩ ⟨⟨e3, l3⟩, x3_0, x3_1, _, _, _, rq3⟩
      simp only at e3 l3 rq3 x3_0 x3_1
      refine ⟨part1 ru2 x3_0 rd0 hdn (show val5 u2 (f3 0) 0 0 0 < (val5 d0 0 0 0 0) * 18446744073709551616 by unfold val5 val4 at l3 ⊢; omega) ?_ ?_ ?_, ?_⟩
      · intro q; simp
      · intro q b w0 w1 f h0 h1; simp [h0, h1]
      · intro q b f; simp
      rintro ⟨q2, f2⟩ ⟨⟨e2, l2⟩, x2_0, x2_1, _, _, _, rq2⟩
      simp only at e2 l2 rq2 x2_0 x2_1
      refine ⟨part1 ru1 x2_0 rd0 hdn (show val5 u1 (f2 0) 0 0 0 < (val5 d0 0 0 0 0) * 18446744073709551616 by unfold val5 val4 at l2 ⊢; omega) ?_ ?_ ?_, ?_⟩
      · intro q; simp
      · intro q b w0 w1 f h0 h1; simp [h0, h1]
      · intro q b f; simp
      rintro ⟨q1, f1⟩ ⟨⟨e1, l1⟩, x1_0, x1_1, _, _, _, rq1⟩
      simp only at e1 l1 rq1 x1_0 x1_1
      refine ⟨part1 ru0 x1_0 rd0 hdn (show val5 u0 (f1 0) 0 0 0 < (val5 d0 0 0 0 0) * 18446744073709551616 by unfold val5 val4 at l1 ⊢; omega) ?_ ?_ ?_, ?_⟩
      · intro q; simp
      · intro q b w0 w1 f h0 h1; simp [h0, h1]
      · intro q b f; simp
      rintro ⟨q0, f0⟩ ⟨⟨e0, l0⟩, x0_0, x0_1, _, _, _, rq0⟩
      simp only at e0 l0 rq0 x0_0 x0_1
      refine rStep x0_0 x0_1 hs63 ?_
      have hD1 : (val5 d0 0 0 0 0) < 18446744073709551616 := by unfold val5 val4; omega
      have t7 : f7 1 = 0 := by
        unfold val5 val4 at l7 hD1
        omega
      have t6 : f6 1 = 0 := by
        unfold val5 val4 at l6 hD1
        omega
      have t5 : f5 1 = 0 := by
        unfold val5 val4 at l5 hD1
        omega
      have t4 : f4 1 = 0 := by
        unfold val5 val4 at l4 hD1
        omega
      have t3 : f3 1 = 0 := by
        unfold val5 val4 at l3 hD1
        omega
      have t2 : f2 1 = 0 := by
        unfold val5 val4 at l2 hD1
        omega
      have t1 : f1 1 = 0 := by
        unfold val5 val4 at l1 hD1
        omega
      have t0 : f0 1 = 0 := by
        unfold val5 val4 at l0 hD1
        omega
      have hQ : (val4 q0 q1 q2 q3 + val4 q4 q5 q6 q7 * 115792089237316195423570985008687907853269984665640564039457584007913129639936) * (val5 d0 0 0 0 0) = q0 * (val5 d0 0 0 0 0) * 1 + q1 * (val5 d0 0 0 0 0) * 18446744073709551616 + q2 * (val5 d0 0 0 0 0) * 340282366920938463463374607431768211456 + q3 * (val5 d0 0 0 0 0) * 6277101735386680763835789423207666416102355444464034512896 + q4 * (val5 d0 0 0 0 0) * 115792089237316195423570985008687907853269984665640564039457584007913129639936 + q5 * (val5 d0 0 0 0 0) * 2135987035920910082395021706169552114602704522356652769947041607822219725780640550022962086936576 + q6 * (val5 d0 0 0 0 0) * 39402006196394479212279040100143613805079739270465446667948293404245721771497210611414266254884915640806627990306816 + q7 * (val5 d0 0 0 0 0) * 726838724295606890549323807888004534353641360687318060281490199180639288113397923326191050713763565560762521606266177933534601628614656 := by unfold val4; grind
      have hU : val4 u0 u1 u2 u3 + val4 u4 u5 u6 u7 * 115792089237316195423570985008687907853269984665640564039457584007913129639936 + u8 * 13407807929942597099574024998205846127479365820592393377723561443721764030073546976801874298166903427690031858186486050853753882811946569946433649006084096 = (val4 q0 q1 q2 q3 + val4 q4 q5 q6 q7 * 115792089237316195423570985008687907853269984665640564039457584007913129639936) * (val5 d0 0 0 0 0) + (val5 (f0 0) 0 0 0 0) := by
        rw [hQ]
        generalize q0 * (val5 d0 0 0 0 0) = P0 at *
        generalize q1 * (val5 d0 0 0 0 0) = P1 at *
        generalize q2 * (val5 d0 0 0 0 0) = P2 at *
        generalize q3 * (val5 d0 0 0 0 0) = P3 at *
        generalize q4 * (val5 d0 0 0 0 0) = P4 at *
        generalize q5 * (val5 d0 0 0 0 0) = P5 at *
        generalize q6 * (val5 d0 0 0 0 0) = P6 at *
        generalize q7 * (val5 d0 0 0 0 0) = P7 at *
        unfold val5 val4 at *
        omega
      have hR0 : 0 ≤ (val5 (f0 0) 0 0 0 0) ∧ (val5 (f0 0) 0 0 0 0) < (val5 d0 0 0 0 0) := by
        constructor
        · unfold val5 val4; omega
        · unfold val5 val4 at l0 ⊢; omega
      obtain ⟨fq, fr⟩ := divFin (N := val8 lo0 lo1 lo2 lo3 hi0 hi1 hi2 hi3) hM0 hD (su) hU hR0.1 hR0.2
      have hN : val8 lo0 lo1 lo2 lo3 hi0 hi1 hi2 hi3 = val4 hi0 hi1 hi2 hi3 * 115792089237316195423570985008687907853269984665640564039457584007913129639936 + val4 lo0 lo1 lo2 lo3 := by unfold val8; omega
      rw [hN] at fq fr
      have eq_ : qF (val4 lo0 lo1 lo2 lo3) (val4 hi0 hi1 hi2 hi3) (val4 m0 m1 m2 m3) = val4 q0 q1 q2 q3 + val4 q4 q5 q6 q7 * 115792089237316195423570985008687907853269984665640564039457584007913129639936 := by unfold qF; rw [if_neg (by omega), fq]
      have er := rval (w0 := (f0 0)) (w1 := 0) (w2 := 0) (w3 := 0) hs63 (by rw [← fr]; unfold val5; omega)
      have er_ : rF (val4 lo0 lo1 lo2 lo3) (val4 hi0 hi1 hi2 hi3) (val4 m0 m1 m2 m3) = val4 (rwf (f0 0) (f0 1) s) 0 0 0 := by
        unfold rF; rw [if_neg (by omega), ← er]
        rw [t0]; simp [rwf]
      obtain ⟨⟨a0, a1, a2, a3⟩, a4, a5, a6, a7⟩ := halves8 (X := qF (val4 lo0 lo1 lo2 lo3) (val4 hi0 hi1 hi2 hi3) (val4 m0 m1 m2 m3)) rq0 rq1 rq2 rq3 rq4 rq5 rq6 rq7 eq_
      obtain ⟨c0, c1, c2, c3⟩ := limbs4' (rwf_in x0_0 x0_1 hs63).2.2.2.2 n0 n0 n0
      rw [← er_] at c0 c1 c2 c3
      exact ⟨⟨⟨rfl, a0⟩, ⟨rfl, a1⟩, ⟨rfl, a2⟩, ⟨rfl, a3⟩, trivial⟩, ⟨⟨rfl, a4⟩, ⟨rfl, a5⟩, ⟨rfl, a6⟩, ⟨rfl, a7⟩, trivial⟩, ⟨⟨rfl, c0.symm⟩, ⟨rfl, c1.symm⟩, ⟨rfl, c2.symm⟩, ⟨rfl, c3.symm⟩, trivial⟩, ⟨rfl, by rw [if_neg (by omega)]⟩, trivial⟩
    · intro v5 h5
      rw [i64_id (by omega) (by omega)] at h5
      obtain ⟨s, hs⟩ := Int.eq_ofNat_of_zero_le (show 0 ≤ v5 by omega)
      subst hs
      have hs63 : s ≤ 63 := by omega
      obtain ⟨nm1, nm2⟩ := norm 2 (s := s) hM0 (by omega)
      rw [show (2 : Int) ^ (64 * 2 - 1) = 170141183460469231731687303715884105728 from rfl] at nm1
      rw [show (2 : Int) ^ (64 * 2) = 340282366920938463463374607431768211456 from rfl] at nm2
      refine ⟨⟨hm0, hm1, hm2, hm3, n0, n0, n0, n0, ⟨by omega, by omega⟩, by omega, by omega⟩, ?_⟩
      intro d0 g0 d1 g1 d2 g2 d3 g3 d4 g4 d5 g5 d6 g6 d7 g7 d8 g8
      simp only [Int.toNat_natCast] at g0 g1 g2 g3 g4 g5 g6 g7 g8
      have sd := sval (l0 := m0) (l1 := m1) (l2 := m2) (l3 := m3) (l4 := 0) (l5 := 0) (l6 := 0) (l7 := 0) hs63
      rw [show val8 m0 m1 m2 m3 0 0 0 0 = val4 m0 m1 m2 m3 by unfold val8 val4; omega] at sd
      have rd0 := shw_in (l := m0) (m := 0) hm0 n0 hs63
      rw [← g0] at rd0 sd
      have rd1 := shw_in (l := m1) (m := m0) hm1 hm0 hs63
      rw [← g1] at rd1 sd
      have rd2 := shw_in (l := m2) (m := m1) hm2 hm1 hs63
      rw [← g2] at rd2 sd
      have rd3 := shw_in (l := m3) (m := m2) hm3 hm2 hs63
      rw [← g3] at rd3 sd
      have rd4 := shw_in (l := 0) (m := m3) n0 hm3 hs63
      rw [← g4] at rd4 sd
      have z0 : shw 0 0 s = 0 := by unfold shw; simp
      rw [z0] at sd g5 g6 g7 g8
      have hD : val5 d0 d1 0 0 0 = val4 m0 m1 m2 m3 * 2 ^ s ∧ 9223372036854775808 ≤ d1 := by
        generalize val4 m0 m1 m2 m3 * 2 ^ s = Z at *
        unfold val5 val4 at *
        omega
      obtain ⟨hD, hdn⟩ := hD
      refine ⟨⟨hl0, hl1, hl2, hl3, hh0, hh1, hh2, hh3, ⟨by omega, by omega⟩, by omega, by omega⟩, ?_⟩
      intro u0 j0 u1 j1 u2 j2 u3 j3 u4 j4 u5 j5 u6 j6 u7 j7 u8 j8
      simp only [Int.toNat_natCast] at j0 j1 j2 j3 j4 j5 j6 j7 j8
      have su := sval (l0 := lo0) (l1 := lo1) (l2 := lo2) (l3 := lo3) (l4 := hi0) (l5 := hi1) (l6 := hi2) (l7 := hi3) hs63
      have ru0 := shw_in (l := lo0) (m := 0) hl0 n0 hs63
      rw [← j0] at ru0 su
      have ru1 := shw_in (l := lo1) (m := lo0) hl1 hl0 hs63
      rw [← j1] at ru1 su
      have ru2 := shw_in (l := lo2) (m := lo1) hl2 hl1 hs63
      rw [← j2] at ru2 su
      have ru3 := shw_in (l := lo3) (m := lo2) hl3 hl2 hs63
      rw [← j3] at ru3 su
      have ru4 := shw_in (l := hi0) (m := lo3) hh0 hl3 hs63
      rw [← j4] at ru4 su
      have ru5 := shw_in (l := hi1) (m := hi0) hh1 hh0 hs63
      rw [← j5] at ru5 su
      have ru6 := shw_in (l := hi2) (m := hi1) hh2 hh1 hs63
      rw [← j6] at ru6 su
      have ru7 := shw_in (l := hi3) (m := hi2) hh3 hh2 hs63
      rw [← j7] at ru7 su
      have ru8 := shw_in (l := 0) (m := hi3) n0 hh3 hs63
      rw [← j8] at ru8 su
      have ht : u8 < 9223372036854775808 := by
        have a := high_lt hh3 hs63
        have b : (2 : Int) ^ s ≤ 2 ^ 63 := by have := Nat.pow_le_pow_right (show 0 < 2 by omega) hs63; exact_mod_cast this
        rw [show (2 : Int) ^ 63 = 9223372036854775808 from rfl] at b
        rw [j8]; unfold shw; rw [show (0 : Int) * 2 ^ s % 18446744073709551616 = 0 by simp]; omega
      clear g0 g1 g2 g3 g4 g5 g6 g7 g8 j0 j1 j2 j3 j4 j5 j6 j7 j8 sd
      refine ⟨part2 ru6 ru7 ru8 rd0 rd1 hdn (show val5 u6 u7 u8 0 0 < (val5 d0 d1 0 0 0) * 18446744073709551616 by unfold val5 val4; omega) ?_ ?_ ?_, ?_⟩
      · intro q; simp
      · intro q b w0 w1 w2 f h0 h1 h2; simp [h0, h1, h2]
      · intro q b f; simp
      rintro ⟨q6, f6⟩ ⟨⟨e6, l6⟩, x6_0, x6_1, x6_2, _, _, rq6⟩
      simp only at e6 l6 rq6 x6_0 x6_1 x6_2
      refine ⟨part2 ru5 x6_0 x6_1 rd0 rd1 hdn (show val5 u5 (f6 0) (f6 1) 0 0 < (val5 d0 d1 0 0 0) * 18446744073709551616 by unfold val5 val4 at l6 ⊢; omega) ?_ ?_ ?_, ?_⟩
      · intro q; simp
      · intro q b w0 w1 w2 f h0 h1 h2; simp [h0, h1, h2]
      · intro q b f; simp
      rintro ⟨q5, f5⟩ ⟨⟨e5, l5⟩, x5_0, x5_1, x5_2, _, _, rq5⟩
      simp only at e5 l5 rq5 x5_0 x5_1 x5_2
      refine ⟨part2 ru4 x5_0 x5_1 rd0 rd1 hdn (show val5 u4 (f5 0) (f5 1) 0 0 < (val5 d0 d1 0 0 0) * 18446744073709551616 by unfold val5 val4 at l5 ⊢; omega) ?_ ?_ ?_, ?_⟩
      · intro q; simp
      · intro q b w0 w1 w2 f h0 h1 h2; simp [h0, h1, h2]
      · intro q b f; simp
      rintro ⟨q4, f4⟩ ⟨⟨e4, l4⟩, x4_0, x4_1, x4_2, _, _, rq4⟩
      simp only at e4 l4 rq4 x4_0 x4_1 x4_2
      refine ⟨part2 ru3 x4_0 x4_1 rd0 rd1 hdn (show val5 u3 (f4 0) (f4 1) 0 0 < (val5 d0 d1 0 0 0) * 18446744073709551616 by unfold val5 val4 at l4 ⊢; omega) ?_ ?_ ?_, ?_⟩
      · intro q; simp
      · intro q b w0 w1 w2 f h0 h1 h2; simp [h0, h1, h2]
      · intro q b f; simp
      rintro ⟨q3, f3⟩ ⟨⟨e3, l3⟩, x3_0, x3_1, x3_2, _, _, rq3⟩
      simp only at e3 l3 rq3 x3_0 x3_1 x3_2
      refine ⟨part2 ru2 x3_0 x3_1 rd0 rd1 hdn (show val5 u2 (f3 0) (f3 1) 0 0 < (val5 d0 d1 0 0 0) * 18446744073709551616 by unfold val5 val4 at l3 ⊢; omega) ?_ ?_ ?_, ?_⟩
      · intro q; simp
      · intro q b w0 w1 w2 f h0 h1 h2; simp [h0, h1, h2]
      · intro q b f; simp
      rintro ⟨q2, f2⟩ ⟨⟨e2, l2⟩, x2_0, x2_1, x2_2, _, _, rq2⟩
      simp only at e2 l2 rq2 x2_0 x2_1 x2_2
      refine ⟨part2 ru1 x2_0 x2_1 rd0 rd1 hdn (show val5 u1 (f2 0) (f2 1) 0 0 < (val5 d0 d1 0 0 0) * 18446744073709551616 by unfold val5 val4 at l2 ⊢; omega) ?_ ?_ ?_, ?_⟩
      · intro q; simp
      · intro q b w0 w1 w2 f h0 h1 h2; simp [h0, h1, h2]
      · intro q b f; simp
      rintro ⟨q1, f1⟩ ⟨⟨e1, l1⟩, x1_0, x1_1, x1_2, _, _, rq1⟩
      simp only at e1 l1 rq1 x1_0 x1_1 x1_2
      refine ⟨part2 ru0 x1_0 x1_1 rd0 rd1 hdn (show val5 u0 (f1 0) (f1 1) 0 0 < (val5 d0 d1 0 0 0) * 18446744073709551616 by unfold val5 val4 at l1 ⊢; omega) ?_ ?_ ?_, ?_⟩
      · intro q; simp
      · intro q b w0 w1 w2 f h0 h1 h2; simp [h0, h1, h2]
      · intro q b f; simp
      rintro ⟨q0, f0⟩ ⟨⟨e0, l0⟩, x0_0, x0_1, x0_2, _, _, rq0⟩
      simp only at e0 l0 rq0 x0_0 x0_1 x0_2
      refine rStep x0_0 x0_1 hs63 ?_
      refine rStep x0_1 x0_2 hs63 ?_
      have hD1 : (val5 d0 d1 0 0 0) < 340282366920938463463374607431768211456 := by unfold val5 val4; omega
      have t6 : f6 2 = 0 := by
        unfold val5 val4 at l6 hD1
        omega
      have t5 : f5 2 = 0 := by
        unfold val5 val4 at l5 hD1
        omega
      have t4 : f4 2 = 0 := by
        unfold val5 val4 at l4 hD1
        omega
      have t3 : f3 2 = 0 := by
        unfold val5 val4 at l3 hD1
        omega
      have t2 : f2 2 = 0 := by
        unfold val5 val4 at l2 hD1
        omega
      have t1 : f1 2 = 0 := by
        unfold val5 val4 at l1 hD1
        omega
      have t0 : f0 2 = 0 := by
        unfold val5 val4 at l0 hD1
        omega
      have hQ : (val4 q0 q1 q2 q3 + val4 q4 q5 q6 0 * 115792089237316195423570985008687907853269984665640564039457584007913129639936) * (val5 d0 d1 0 0 0) = q0 * (val5 d0 d1 0 0 0) * 1 + q1 * (val5 d0 d1 0 0 0) * 18446744073709551616 + q2 * (val5 d0 d1 0 0 0) * 340282366920938463463374607431768211456 + q3 * (val5 d0 d1 0 0 0) * 6277101735386680763835789423207666416102355444464034512896 + q4 * (val5 d0 d1 0 0 0) * 115792089237316195423570985008687907853269984665640564039457584007913129639936 + q5 * (val5 d0 d1 0 0 0) * 2135987035920910082395021706169552114602704522356652769947041607822219725780640550022962086936576 + q6 * (val5 d0 d1 0 0 0) * 39402006196394479212279040100143613805079739270465446667948293404245721771497210611414266254884915640806627990306816 := by unfold val4; grind
      have hU : val4 u0 u1 u2 u3 + val4 u4 u5 u6 u7 * 115792089237316195423570985008687907853269984665640564039457584007913129639936 + u8 * 13407807929942597099574024998205846127479365820592393377723561443721764030073546976801874298166903427690031858186486050853753882811946569946433649006084096 = (val4 q0 q1 q2 q3 + val4 q4 q5 q6 0 * 115792089237316195423570985008687907853269984665640564039457584007913129639936) * (val5 d0 d1 0 0 0) + (val5 (f0 0) (f0 1) 0 0 0) := by
        rw [hQ]
        generalize q0 * (val5 d0 d1 0 0 0) = P0 at *
        generalize q1 * (val5 d0 d1 0 0 0) = P1 at *
        generalize q2 * (val5 d0 d1 0 0 0) = P2 at *
        generalize q3 * (val5 d0 d1 0 0 0) = P3 at *
        generalize q4 * (val5 d0 d1 0 0 0) = P4 at *
        generalize q5 * (val5 d0 d1 0 0 0) = P5 at *
        generalize q6 * (val5 d0 d1 0 0 0) = P6 at *
        unfold val5 val4 at *
        omega
      have hR0 : 0 ≤ (val5 (f0 0) (f0 1) 0 0 0) ∧ (val5 (f0 0) (f0 1) 0 0 0) < (val5 d0 d1 0 0 0) := by
        constructor
        · unfold val5 val4; omega
        · unfold val5 val4 at l0 ⊢; omega
      obtain ⟨fq, fr⟩ := divFin (N := val8 lo0 lo1 lo2 lo3 hi0 hi1 hi2 hi3) hM0 hD (su) hU hR0.1 hR0.2
      have hN : val8 lo0 lo1 lo2 lo3 hi0 hi1 hi2 hi3 = val4 hi0 hi1 hi2 hi3 * 115792089237316195423570985008687907853269984665640564039457584007913129639936 + val4 lo0 lo1 lo2 lo3 := by unfold val8; omega
      rw [hN] at fq fr
      have eq_ : qF (val4 lo0 lo1 lo2 lo3) (val4 hi0 hi1 hi2 hi3) (val4 m0 m1 m2 m3) = val4 q0 q1 q2 q3 + val4 q4 q5 q6 0 * 115792089237316195423570985008687907853269984665640564039457584007913129639936 := by unfold qF; rw [if_neg (by omega), fq]
      have er := rval (w0 := (f0 0)) (w1 := (f0 1)) (w2 := 0) (w3 := 0) hs63 (by rw [← fr]; unfold val5; omega)
      have er_ : rF (val4 lo0 lo1 lo2 lo3) (val4 hi0 hi1 hi2 hi3) (val4 m0 m1 m2 m3) = val4 (rwf (f0 0) (f0 1) s) (rwf (f0 1) (f0 2) s) 0 0 := by
        unfold rF; rw [if_neg (by omega), ← er]
        rw [t0]; simp [rwf]
      obtain ⟨⟨a0, a1, a2, a3⟩, a4, a5, a6, a7⟩ := halves8 (X := qF (val4 lo0 lo1 lo2 lo3) (val4 hi0 hi1 hi2 hi3) (val4 m0 m1 m2 m3)) rq0 rq1 rq2 rq3 rq4 rq5 rq6 n0 eq_
      obtain ⟨c0, c1, c2, c3⟩ := limbs4' (rwf_in x0_0 x0_1 hs63).2.2.2.2 (rwf_in x0_1 x0_2 hs63).2.2.2.2 n0 n0
      rw [← er_] at c0 c1 c2 c3
      exact ⟨⟨⟨rfl, a0⟩, ⟨rfl, a1⟩, ⟨rfl, a2⟩, ⟨rfl, a3⟩, trivial⟩, ⟨⟨rfl, a4⟩, ⟨rfl, a5⟩, ⟨rfl, a6⟩, ⟨rfl, a7⟩, trivial⟩, ⟨⟨rfl, c0.symm⟩, ⟨rfl, c1.symm⟩, ⟨rfl, c2.symm⟩, ⟨rfl, c3.symm⟩, trivial⟩, ⟨rfl, by rw [if_neg (by omega)]⟩, trivial⟩
    · intro v5 h5
      rw [i64_id (by omega) (by omega)] at h5
      obtain ⟨s, hs⟩ := Int.eq_ofNat_of_zero_le (show 0 ≤ v5 by omega)
      subst hs
      have hs63 : s ≤ 63 := by omega
      obtain ⟨nm1, nm2⟩ := norm 3 (s := s) hM0 (by omega)
      rw [show (2 : Int) ^ (64 * 3 - 1) = 3138550867693340381917894711603833208051177722232017256448 from rfl] at nm1
      rw [show (2 : Int) ^ (64 * 3) = 6277101735386680763835789423207666416102355444464034512896 from rfl] at nm2
      refine ⟨⟨hm0, hm1, hm2, hm3, n0, n0, n0, n0, ⟨by omega, by omega⟩, by omega, by omega⟩, ?_⟩
      intro d0 g0 d1 g1 d2 g2 d3 g3 d4 g4 d5 g5 d6 g6 d7 g7 d8 g8
      simp only [Int.toNat_natCast] at g0 g1 g2 g3 g4 g5 g6 g7 g8
      have sd := sval (l0 := m0) (l1 := m1) (l2 := m2) (l3 := m3) (l4 := 0) (l5 := 0) (l6 := 0) (l7 := 0) hs63
      rw [show val8 m0 m1 m2 m3 0 0 0 0 = val4 m0 m1 m2 m3 by unfold val8 val4; omega] at sd
      have rd0 := shw_in (l := m0) (m := 0) hm0 n0 hs63
      rw [← g0] at rd0 sd
      have rd1 := shw_in (l := m1) (m := m0) hm1 hm0 hs63
      rw [← g1] at rd1 sd
      have rd2 := shw_in (l := m2) (m := m1) hm2 hm1 hs63
      rw [← g2] at rd2 sd
      have rd3 := shw_in (l := m3) (m := m2) hm3 hm2 hs63
      rw [← g3] at rd3 sd
      have rd4 := shw_in (l := 0) (m := m3) n0 hm3 hs63
      rw [← g4] at rd4 sd
      have z0 : shw 0 0 s = 0 := by unfold shw; simp
      rw [z0] at sd g5 g6 g7 g8
      have hD : val5 d0 d1 d2 0 0 = val4 m0 m1 m2 m3 * 2 ^ s ∧ 9223372036854775808 ≤ d2 := by
        generalize val4 m0 m1 m2 m3 * 2 ^ s = Z at *
        unfold val5 val4 at *
        omega
      obtain ⟨hD, hdn⟩ := hD
      refine ⟨⟨hl0, hl1, hl2, hl3, hh0, hh1, hh2, hh3, ⟨by omega, by omega⟩, by omega, by omega⟩, ?_⟩
      intro u0 j0 u1 j1 u2 j2 u3 j3 u4 j4 u5 j5 u6 j6 u7 j7 u8 j8
      simp only [Int.toNat_natCast] at j0 j1 j2 j3 j4 j5 j6 j7 j8
      have su := sval (l0 := lo0) (l1 := lo1) (l2 := lo2) (l3 := lo3) (l4 := hi0) (l5 := hi1) (l6 := hi2) (l7 := hi3) hs63
      have ru0 := shw_in (l := lo0) (m := 0) hl0 n0 hs63
      rw [← j0] at ru0 su
      have ru1 := shw_in (l := lo1) (m := lo0) hl1 hl0 hs63
      rw [← j1] at ru1 su
      have ru2 := shw_in (l := lo2) (m := lo1) hl2 hl1 hs63
      rw [← j2] at ru2 su
      have ru3 := shw_in (l := lo3) (m := lo2) hl3 hl2 hs63
      rw [← j3] at ru3 su
      have ru4 := shw_in (l := hi0) (m := lo3) hh0 hl3 hs63
      rw [← j4] at ru4 su
      have ru5 := shw_in (l := hi1) (m := hi0) hh1 hh0 hs63
      rw [← j5] at ru5 su
      have ru6 := shw_in (l := hi2) (m := hi1) hh2 hh1 hs63
      rw [← j6] at ru6 su
      have ru7 := shw_in (l := hi3) (m := hi2) hh3 hh2 hs63
      rw [← j7] at ru7 su
      have ru8 := shw_in (l := 0) (m := hi3) n0 hh3 hs63
      rw [← j8] at ru8 su
      have ht : u8 < 9223372036854775808 := by
        have a := high_lt hh3 hs63
        have b : (2 : Int) ^ s ≤ 2 ^ 63 := by have := Nat.pow_le_pow_right (show 0 < 2 by omega) hs63; exact_mod_cast this
        rw [show (2 : Int) ^ 63 = 9223372036854775808 from rfl] at b
        rw [j8]; unfold shw; rw [show (0 : Int) * 2 ^ s % 18446744073709551616 = 0 by simp]; omega
      clear g0 g1 g2 g3 g4 g5 g6 g7 g8 j0 j1 j2 j3 j4 j5 j6 j7 j8 sd
      refine ⟨part3 ru5 ru6 ru7 ru8 rd0 rd1 rd2 hdn (show val5 u5 u6 u7 u8 0 < (val5 d0 d1 d2 0 0) * 18446744073709551616 by unfold val5 val4; omega) ?_ ?_ ?_, ?_⟩
      · intro q; simp
      · intro q b w0 w1 w2 w3 f h0 h1 h2 h3; simp [h0, h1, h2, h3]
      · intro q b f; simp
      rintro ⟨q5, f5⟩ ⟨⟨e5, l5⟩, x5_0, x5_1, x5_2, x5_3, _, rq5⟩
      simp only at e5 l5 rq5 x5_0 x5_1 x5_2 x5_3
      refine ⟨part3 ru4 x5_0 x5_1 x5_2 rd0 rd1 rd2 hdn (show val5 u4 (f5 0) (f5 1) (f5 2) 0 < (val5 d0 d1 d2 0 0) * 18446744073709551616 by unfold val5 val4 at l5 ⊢; omega) ?_ ?_ ?_, ?_⟩
      · intro q; simp
      · intro q b w0 w1 w2 w3 f h0 h1 h2 h3; simp [h0, h1, h2, h3]
      · intro q b f; simp
      rintro ⟨q4, f4⟩ ⟨⟨e4, l4⟩, x4_0, x4_1, x4_2, x4_3, _, rq4⟩
      simp only at e4 l4 rq4 x4_0 x4_1 x4_2 x4_3
      refine ⟨part3 ru3 x4_0 x4_1 x4_2 rd0 rd1 rd2 hdn (show val5 u3 (f4 0) (f4 1) (f4 2) 0 < (val5 d0 d1 d2 0 0) * 18446744073709551616 by unfold val5 val4 at l4 ⊢; omega) ?_ ?_ ?_, ?_⟩
      · intro q; simp
      · intro q b w0 w1 w2 w3 f h0 h1 h2 h3; simp [h0, h1, h2, h3]
      · intro q b f; simp
      rintro ⟨q3, f3⟩ ⟨⟨e3, l3⟩, x3_0, x3_1, x3_2, x3_3, _, rq3⟩
      simp only at e3 l3 rq3 x3_0 x3_1 x3_2 x3_3
      refine ⟨part3 ru2 x3_0 x3_1 x3_2 rd0 rd1 rd2 hdn (show val5 u2 (f3 0) (f3 1) (f3 2) 0 < (val5 d0 d1 d2 0 0) * 18446744073709551616 by unfold val5 val4 at l3 ⊢; omega) ?_ ?_ ?_, ?_⟩
      · intro q; simp
      · intro q b w0 w1 w2 w3 f h0 h1 h2 h3; simp [h0, h1, h2, h3]
      · intro q b f; simp
      rintro ⟨q2, f2⟩ ⟨⟨e2, l2⟩, x2_0, x2_1, x2_2, x2_3, _, rq2⟩
      simp only at e2 l2 rq2 x2_0 x2_1 x2_2 x2_3
      refine ⟨part3 ru1 x2_0 x2_1 x2_2 rd0 rd1 rd2 hdn (show val5 u1 (f2 0) (f2 1) (f2 2) 0 < (val5 d0 d1 d2 0 0) * 18446744073709551616 by unfold val5 val4 at l2 ⊢; omega) ?_ ?_ ?_, ?_⟩
      · intro q; simp
      · intro q b w0 w1 w2 w3 f h0 h1 h2 h3; simp [h0, h1, h2, h3]
      · intro q b f; simp
      rintro ⟨q1, f1⟩ ⟨⟨e1, l1⟩, x1_0, x1_1, x1_2, x1_3, _, rq1⟩
      simp only at e1 l1 rq1 x1_0 x1_1 x1_2 x1_3
      refine ⟨part3 ru0 x1_0 x1_1 x1_2 rd0 rd1 rd2 hdn (show val5 u0 (f1 0) (f1 1) (f1 2) 0 < (val5 d0 d1 d2 0 0) * 18446744073709551616 by unfold val5 val4 at l1 ⊢; omega) ?_ ?_ ?_, ?_⟩
      · intro q; simp
      · intro q b w0 w1 w2 w3 f h0 h1 h2 h3; simp [h0, h1, h2, h3]
      · intro q b f; simp
      rintro ⟨q0, f0⟩ ⟨⟨e0, l0⟩, x0_0, x0_1, x0_2, x0_3, _, rq0⟩
      simp only at e0 l0 rq0 x0_0 x0_1 x0_2 x0_3
      refine rStep x0_0 x0_1 hs63 ?_
      refine rStep x0_1 x0_2 hs63 ?_
      refine rStep x0_2 x0_3 hs63 ?_
      have hD1 : (val5 d0 d1 d2 0 0) < 6277101735386680763835789423207666416102355444464034512896 := by unfold val5 val4; omega
      have t5 : f5 3 = 0 := by
        unfold val5 val4 at l5 hD1
        omega
      have t4 : f4 3 = 0 := by
        unfold val5 val4 at l4 hD1
        omega
      have t3 : f3 3 = 0 := by
        unfold val5 val4 at l3 hD1
        omega
      have t2 : f2 3 = 0 := by
        unfold val5 val4 at l2 hD1
        omega
      have t1 : f1 3 = 0 := by
        unfold val5 val4 at l1 hD1
        omega
      have t0 : f0 3 = 0 := by
        unfold val5 val4 at l0 hD1
        omega
      have hQ : (val4 q0 q1 q2 q3 + val4 q4 q5 0 0 * 115792089237316195423570985008687907853269984665640564039457584007913129639936) * (val5 d0 d1 d2 0 0) = q0 * (val5 d0 d1 d2 0 0) * 1 + q1 * (val5 d0 d1 d2 0 0) * 18446744073709551616 + q2 * (val5 d0 d1 d2 0 0) * 340282366920938463463374607431768211456 + q3 * (val5 d0 d1 d2 0 0) * 6277101735386680763835789423207666416102355444464034512896 + q4 * (val5 d0 d1 d2 0 0) * 115792089237316195423570985008687907853269984665640564039457584007913129639936 + q5 * (val5 d0 d1 d2 0 0) * 2135987035920910082395021706169552114602704522356652769947041607822219725780640550022962086936576 := by unfold val4; grind
      have hU : val4 u0 u1 u2 u3 + val4 u4 u5 u6 u7 * 115792089237316195423570985008687907853269984665640564039457584007913129639936 + u8 * 13407807929942597099574024998205846127479365820592393377723561443721764030073546976801874298166903427690031858186486050853753882811946569946433649006084096 = (val4 q0 q1 q2 q3 + val4 q4 q5 0 0 * 115792089237316195423570985008687907853269984665640564039457584007913129639936) * (val5 d0 d1 d2 0 0) + (val5 (f0 0) (f0 1) (f0 2) 0 0) := by
        rw [hQ]
        generalize q0 * (val5 d0 d1 d2 0 0) = P0 at *
        generalize q1 * (val5 d0 d1 d2 0 0) = P1 at *
        generalize q2 * (val5 d0 d1 d2 0 0) = P2 at *
        generalize q3 * (val5 d0 d1 d2 0 0) = P3 at *
        generalize q4 * (val5 d0 d1 d2 0 0) = P4 at *
        generalize q5 * (val5 d0 d1 d2 0 0) = P5 at *
        unfold val5 val4 at *
        omega
      have hR0 : 0 ≤ (val5 (f0 0) (f0 1) (f0 2) 0 0) ∧ (val5 (f0 0) (f0 1) (f0 2) 0 0) < (val5 d0 d1 d2 0 0) := by
        constructor
        · unfold val5 val4; omega
        · unfold val5 val4 at l0 ⊢; omega
      obtain ⟨fq, fr⟩ := divFin (N := val8 lo0 lo1 lo2 lo3 hi0 hi1 hi2 hi3) hM0 hD (su) hU hR0.1 hR0.2
      have hN : val8 lo0 lo1 lo2 lo3 hi0 hi1 hi2 hi3 = val4 hi0 hi1 hi2 hi3 * 115792089237316195423570985008687907853269984665640564039457584007913129639936 + val4 lo0 lo1 lo2 lo3 := by unfold val8; omega
      rw [hN] at fq fr
      have eq_ : qF (val4 lo0 lo1 lo2 lo3) (val4 hi0 hi1 hi2 hi3) (val4 m0 m1 m2 m3) = val4 q0 q1 q2 q3 + val4 q4 q5 0 0 * 115792089237316195423570985008687907853269984665640564039457584007913129639936 := by unfold qF; rw [if_neg (by omega), fq]
      have er := rval (w0 := (f0 0)) (w1 := (f0 1)) (w2 := (f0 2)) (w3 := 0) hs63 (by rw [← fr]; unfold val5; omega)
      have er_ : rF (val4 lo0 lo1 lo2 lo3) (val4 hi0 hi1 hi2 hi3) (val4 m0 m1 m2 m3) = val4 (rwf (f0 0) (f0 1) s) (rwf (f0 1) (f0 2) s) (rwf (f0 2) (f0 3) s) 0 := by
        unfold rF; rw [if_neg (by omega), ← er]
        rw [t0]; simp [rwf]
      obtain ⟨⟨a0, a1, a2, a3⟩, a4, a5, a6, a7⟩ := halves8 (X := qF (val4 lo0 lo1 lo2 lo3) (val4 hi0 hi1 hi2 hi3) (val4 m0 m1 m2 m3)) rq0 rq1 rq2 rq3 rq4 rq5 n0 n0 eq_
      obtain ⟨c0, c1, c2, c3⟩ := limbs4' (rwf_in x0_0 x0_1 hs63).2.2.2.2 (rwf_in x0_1 x0_2 hs63).2.2.2.2 (rwf_in x0_2 x0_3 hs63).2.2.2.2 n0
      rw [← er_] at c0 c1 c2 c3
      exact ⟨⟨⟨rfl, a0⟩, ⟨rfl, a1⟩, ⟨rfl, a2⟩, ⟨rfl, a3⟩, trivial⟩, ⟨⟨rfl, a4⟩, ⟨rfl, a5⟩, ⟨rfl, a6⟩, ⟨rfl, a7⟩, trivial⟩, ⟨⟨rfl, c0.symm⟩, ⟨rfl, c1.symm⟩, ⟨rfl, c2.symm⟩, ⟨rfl, c3.symm⟩, trivial⟩, ⟨rfl, by rw [if_neg (by omega)]⟩, trivial⟩
    · intro v5 h5
      rw [i64_id (by omega) (by omega)] at h5
      obtain ⟨s, hs⟩ := Int.eq_ofNat_of_zero_le (show 0 ≤ v5 by omega)
      subst hs
      have hs63 : s ≤ 63 := by omega
      obtain ⟨nm1, nm2⟩ := norm 4 (s := s) hM0 (by omega)
      rw [show (2 : Int) ^ (64 * 4 - 1) = 57896044618658097711785492504343953926634992332820282019728792003956564819968 from rfl] at nm1
      rw [show (2 : Int) ^ (64 * 4) = 115792089237316195423570985008687907853269984665640564039457584007913129639936 from rfl] at nm2
      refine ⟨⟨hm0, hm1, hm2, hm3, n0, n0, n0, n0, ⟨by omega, by omega⟩, by omega, by omega⟩, ?_⟩
      intro d0 g0 d1 g1 d2 g2 d3 g3 d4 g4 d5 g5 d6 g6 d7 g7 d8 g8
      simp only [Int.toNat_natCast] at g0 g1 g2 g3 g4 g5 g6 g7 g8
      have sd := sval (l0 := m0) (l1 := m1) (l2 := m2) (l3 := m3) (l4 := 0) (l5 := 0) (l6 := 0) (l7 := 0) hs63
      rw [show val8 m0 m1 m2 m3 0 0 0 0 = val4 m0 m1 m2 m3 by unfold val8 val4; omega] at sd
      have rd0 := shw_in (l := m0) (m := 0) hm0 n0 hs63
      rw [← g0] at rd0 sd
      have rd1 := shw_in (l := m1) (m := m0) hm1 hm0 hs63
      rw [← g1] at rd1 sd
      have rd2 := shw_in (l := m2) (m := m1) hm2 hm1 hs63
      rw [← g2] at rd2 sd
      have rd3 := shw_in (l := m3) (m := m2) hm3 hm2 hs63
      rw [← g3] at rd3 sd
      have rd4 := shw_in (l := 0) (m := m3) n0 hm3 hs63
      rw [← g4] at rd4 sd
      have z0 : shw 0 0 s = 0 := by unfold shw; simp
      rw [z0] at sd g5 g6 g7 g8
      have hD : val5 d0 d1 d2 d3 0 = val4 m0 m1 m2 m3 * 2 ^ s ∧ 9223372036854775808 ≤ d3 := by
        generalize val4 m0 m1 m2 m3 * 2 ^ s = Z at *
        unfold val5 val4 at *
        omega
      obtain ⟨hD, hdn⟩ := hD
      refine ⟨⟨hl0, hl1, hl2, hl3, hh0, hh1, hh2, hh3, ⟨by omega, by omega⟩, by omega, by omega⟩, ?_⟩
      intro u0 j0 u1 j1 u2 j2 u3 j3 u4 j4 u5 j5 u6 j6 u7 j7 u8 j8
      simp only [Int.toNat_natCast] at j0 j1 j2 j3 j4 j5 j6 j7 j8
      have su := sval (l0 := lo0) (l1 := lo1) (l2 := lo2) (l3 := lo3) (l4 := hi0) (l5 := hi1) (l6 := hi2) (l7 := hi3) hs63
      have ru0 := shw_in (l := lo0) (m := 0) hl0 n0 hs63
      rw [← j0] at ru0 su
      have ru1 := shw_in (l := lo1) (m := lo0) hl1 hl0 hs63
      rw [← j1] at ru1 su
      have ru2 := shw_in (l := lo2) (m := lo1) hl2 hl1 hs63
      rw [← j2] at ru2 su
      have ru3 := shw_in (l := lo3) (m := lo2) hl3 hl2 hs63
      rw [← j3] at ru3 su
      have ru4 := shw_in (l := hi0) (m := lo3) hh0 hl3 hs63
      rw [← j4] at ru4 su
      have ru5 := shw_in (l := hi1) (m := hi0) hh1 hh0 hs63
      rw [← j5] at ru5 su
      have ru6 := shw_in (l := hi2) (m := hi1) hh2 hh1 hs63
      rw [← j6] at ru6 su
      have ru7 := shw_in (l := hi3) (m := hi2) hh3 hh2 hs63
      rw [← j7] at ru7 su
      have ru8 := shw_in (l := 0) (m := hi3) n0 hh3 hs63
      rw [← j8] at ru8 su
      have ht : u8 < 9223372036854775808 := by
        have a := high_lt hh3 hs63
        have b : (2 : Int) ^ s ≤ 2 ^ 63 := by have := Nat.pow_le_pow_right (show 0 < 2 by omega) hs63; exact_mod_cast this
        rw [show (2 : Int) ^ 63 = 9223372036854775808 from rfl] at b
        rw [j8]; unfold shw; rw [show (0 : Int) * 2 ^ s % 18446744073709551616 = 0 by simp]; omega
      clear g0 g1 g2 g3 g4 g5 g6 g7 g8 j0 j1 j2 j3 j4 j5 j6 j7 j8 sd
      refine ⟨part4 ru4 ru5 ru6 ru7 ru8 rd0 rd1 rd2 rd3 hdn (show val5 u4 u5 u6 u7 u8 < (val5 d0 d1 d2 d3 0) * 18446744073709551616 by unfold val5 val4; omega) ?_ ?_ ?_, ?_⟩
      · intro q; simp
      · intro q b w0 w1 w2 w3 w4 f h0 h1 h2 h3 h4; simp [h0, h1, h2, h3, h4]
      · intro q b f; simp
      rintro ⟨q4, f4⟩ ⟨⟨e4, l4⟩, x4_0, x4_1, x4_2, x4_3, x4_4, rq4⟩
      simp only at e4 l4 rq4 x4_0 x4_1 x4_2 x4_3 x4_4
      refine ⟨part4 ru3 x4_0 x4_1 x4_2 x4_3 rd0 rd1 rd2 rd3 hdn (show val5 u3 (f4 0) (f4 1) (f4 2) (f4 3) < (val5 d0 d1 d2 d3 0) * 18446744073709551616 by unfold val5 val4 at l4 ⊢; omega) ?_ ?_ ?_, ?_⟩
      · intro q; simp
      · intro q b w0 w1 w2 w3 w4 f h0 h1 h2 h3 h4; simp [h0, h1, h2, h3, h4]
      · intro q b f; simp
      rintro ⟨q3, f3⟩ ⟨⟨e3, l3⟩, x3_0, x3_1, x3_2, x3_3, x3_4, rq3⟩
      simp only at e3 l3 rq3 x3_0 x3_1 x3_2 x3_3 x3_4
      refine ⟨part4 ru2 x3_0 x3_1 x3_2 x3_3 rd0 rd1 rd2 rd3 hdn (show val5 u2 (f3 0) (f3 1) (f3 2) (f3 3) < (val5 d0 d1 d2 d3 0) * 18446744073709551616 by unfold val5 val4 at l3 ⊢; omega) ?_ ?_ ?_, ?_⟩
      · intro q; simp
      · intro q b w0 w1 w2 w3 w4 f h0 h1 h2 h3 h4; simp [h0, h1, h2, h3, h4]
      · intro q b f; simp
      rintro ⟨q2, f2⟩ ⟨⟨e2, l2⟩, x2_0, x2_1, x2_2, x2_3, x2_4, rq2⟩
      simp only at e2 l2 rq2 x2_0 x2_1 x2_2 x2_3 x2_4
      refine ⟨part4 ru1 x2_0 x2_1 x2_2 x2_3 rd0 rd1 rd2 rd3 hdn (show val5 u1 (f2 0) (f2 1) (f2 2) (f2 3) < (val5 d0 d1 d2 d3 0) * 18446744073709551616 by unfold val5 val4 at l2 ⊢; omega) ?_ ?_ ?_, ?_⟩
      · intro q; simp
      · intro q b w0 w1 w2 w3 w4 f h0 h1 h2 h3 h4; simp [h0, h1, h2, h3, h4]
      · intro q b f; simp
      rintro ⟨q1, f1⟩ ⟨⟨e1, l1⟩, x1_0, x1_1, x1_2, x1_3, x1_4, rq1⟩
      simp only at e1 l1 rq1 x1_0 x1_1 x1_2 x1_3 x1_4
      refine ⟨part4 ru0 x1_0 x1_1 x1_2 x1_3 rd0 rd1 rd2 rd3 hdn (show val5 u0 (f1 0) (f1 1) (f1 2) (f1 3) < (val5 d0 d1 d2 d3 0) * 18446744073709551616 by unfold val5 val4 at l1 ⊢; omega) ?_ ?_ ?_, ?_⟩
      · intro q; simp
      · intro q b w0 w1 w2 w3 w4 f h0 h1 h2 h3 h4; simp [h0, h1, h2, h3, h4]
      · intro q b f; simp
      rintro ⟨q0, f0⟩ ⟨⟨e0, l0⟩, x0_0, x0_1, x0_2, x0_3, x0_4, rq0⟩
      simp only at e0 l0 rq0 x0_0 x0_1 x0_2 x0_3 x0_4
      refine rStep x0_0 x0_1 hs63 ?_
      refine rStep x0_1 x0_2 hs63 ?_
      refine rStep x0_2 x0_3 hs63 ?_
      refine rStep x0_3 x0_4 hs63 ?_
      have hD1 : (val5 d0 d1 d2 d3 0) < 115792089237316195423570985008687907853269984665640564039457584007913129639936 := by unfold val5 val4; omega
      have t4 : f4 4 = 0 := by
        unfold val5 val4 at l4 hD1
        omega
      have t3 : f3 4 = 0 := by
        unfold val5 val4 at l3 hD1
        omega
      have t2 : f2 4 = 0 := by
        unfold val5 val4 at l2 hD1
        omega
      have t1 : f1 4 = 0 := by
        unfold val5 val4 at l1 hD1
        omega
      have t0 : f0 4 = 0 := by
        unfold val5 val4 at l0 hD1
        omega
      have hQ : (val4 q0 q1 q2 q3 + val4 q4 0 0 0 * 115792089237316195423570985008687907853269984665640564039457584007913129639936) * (val5 d0 d1 d2 d3 0) = q0 * (val5 d0 d1 d2 d3 0) * 1 + q1 * (val5 d0 d1 d2 d3 0) * 18446744073709551616 + q2 * (val5 d0 d1 d2 d3 0) * 340282366920938463463374607431768211456 + q3 * (val5 d0 d1 d2 d3 0) * 6277101735386680763835789423207666416102355444464034512896 + q4 * (val5 d0 d1 d2 d3 0) * 115792089237316195423570985008687907853269984665640564039457584007913129639936 := by unfold val4; grind
      have hU : val4 u0 u1 u2 u3 + val4 u4 u5 u6 u7 * 115792089237316195423570985008687907853269984665640564039457584007913129639936 + u8 * 13407807929942597099574024998205846127479365820592393377723561443721764030073546976801874298166903427690031858186486050853753882811946569946433649006084096 = (val4 q0 q1 q2 q3 + val4 q4 0 0 0 * 115792089237316195423570985008687907853269984665640564039457584007913129639936) * (val5 d0 d1 d2 d3 0) + (val5 (f0 0) (f0 1) (f0 2) (f0 3) 0) := by
        rw [hQ]
        generalize q0 * (val5 d0 d1 d2 d3 0) = P0 at *
        generalize q1 * (val5 d0 d1 d2 d3 0) = P1 at *
        generalize q2 * (val5 d0 d1 d2 d3 0) = P2 at *
        generalize q3 * (val5 d0 d1 d2 d3 0) = P3 at *
        generalize q4 * (val5 d0 d1 d2 d3 0) = P4 at *
        unfold val5 val4 at *
        omega
      have hR0 : 0 ≤ (val5 (f0 0) (f0 1) (f0 2) (f0 3) 0) ∧ (val5 (f0 0) (f0 1) (f0 2) (f0 3) 0) < (val5 d0 d1 d2 d3 0) := by
        constructor
        · unfold val5 val4; omega
        · unfold val5 val4 at l0 ⊢; omega
      obtain ⟨fq, fr⟩ := divFin (N := val8 lo0 lo1 lo2 lo3 hi0 hi1 hi2 hi3) hM0 hD (su) hU hR0.1 hR0.2
      have hN : val8 lo0 lo1 lo2 lo3 hi0 hi1 hi2 hi3 = val4 hi0 hi1 hi2 hi3 * 115792089237316195423570985008687907853269984665640564039457584007913129639936 + val4 lo0 lo1 lo2 lo3 := by unfold val8; omega
      rw [hN] at fq fr
      have eq_ : qF (val4 lo0 lo1 lo2 lo3) (val4 hi0 hi1 hi2 hi3) (val4 m0 m1 m2 m3) = val4 q0 q1 q2 q3 + val4 q4 0 0 0 * 115792089237316195423570985008687907853269984665640564039457584007913129639936 := by unfold qF; rw [if_neg (by omega), fq]
      have er := rval (w0 := (f0 0)) (w1 := (f0 1)) (w2 := (f0 2)) (w3 := (f0 3)) hs63 (by rw [← fr]; unfold val5; omega)
      have er_ : rF (val4 lo0 lo1 lo2 lo3) (val4 hi0 hi1 hi2 hi3) (val4 m0 m1 m2 m3) = val4 (rwf (f0 0) (f0 1) s) (rwf (f0 1) (f0 2) s) (rwf (f0 2) (f0 3) s) (rwf (f0 3) (f0 4) s) := by
        unfold rF; rw [if_neg (by omega), ← er]
        rw [t0]
      obtain ⟨⟨a0, a1, a2, a3⟩, a4, a5, a6, a7⟩ := halves8 (X := qF (val4 lo0 lo1 lo2 lo3) (val4 hi0 hi1 hi2 hi3) (val4 m0 m1 m2 m3)) rq0 rq1 rq2 rq3 rq4 n0 n0 n0 eq_
      obtain ⟨c0, c1, c2, c3⟩ := limbs4' (rwf_in x0_0 x0_1 hs63).2.2.2.2 (rwf_in x0_1 x0_2 hs63).2.2.2.2 (rwf_in x0_2 x0_3 hs63).2.2.2.2 (rwf_in x0_3 x0_4 hs63).2.2.2.2
      rw [← er_] at c0 c1 c2 c3
      exact ⟨⟨⟨rfl, a0⟩, ⟨rfl, a1⟩, ⟨rfl, a2⟩, ⟨rfl, a3⟩, trivial⟩, ⟨⟨rfl, a4⟩, ⟨rfl, a5⟩, ⟨rfl, a6⟩, ⟨rfl, a7⟩, trivial⟩, ⟨⟨rfl, c0.symm⟩, ⟨rfl, c1.symm⟩, ⟨rfl, c2.symm⟩, ⟨rfl, c3.symm⟩, trivial⟩, ⟨rfl, by rw [if_neg (by omega)]⟩, trivial⟩

theorem div_ok : SpecOk Try.prog 75 divSpec := div_okP pureDiv
end Go.Proofs.Ytaaobpalpcdlbaa.Bits
