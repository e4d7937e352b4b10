import Derived.Test.YtaaobpalpcdlbaaSxR
import Derived.Test.YtaaobpalpcdlbaaProg
import Derived.Test.YtaaobpalpcdlbaaPt14
import Derived.KernelRfl
namespace Go.Proofs.Ytaaobpalpcdlbaa.Bits
open Go Go.Sx Go.RowKit Go.EC
set_option linter.unusedVariables false
set_option maxRecDepth 100000
theorem dbl2 {P Q : Pt p256} (hP : C256.on P) (hQ : C256.on Q) (m l : Nat) : C256.add (C256.add (C256.mul m P) (C256.mul l Q)) (C256.add (C256.mul m P) (C256.mul l Q)) = C256.add (C256.mul (m + m) P) (C256.mul (l + l) Q) := by
  have om := C256.on_mul hP m
  have ol := C256.on_mul hQ l
  rw [C256.add_swap om ol om ol, ← C256.mul_add hP, ← C256.mul_add hQ]
theorem inc2 {P Q : Pt p256} (hP : C256.on P) (hQ : C256.on Q) (m l : Nat) : C256.add (C256.add (C256.mul m P) (C256.mul l Q)) (C256.add P Q) = C256.add (C256.mul (m + 1) P) (C256.mul (l + 1) Q) := C256.add_swap (C256.on_mul hP m) (C256.on_mul hQ l) hP hQ
theorem incr {P Q : Pt p256} (hP : C256.on P) (hQ : C256.on Q) (m l : Nat) : C256.add (C256.add (C256.mul m P) (C256.mul l Q)) Q = C256.add (C256.mul m P) (C256.mul (l + 1) Q) := C256.add_assoc (C256.on_mul hP m) (C256.on_mul hQ l) hQ
theorem incl {P Q : Pt p256} (hP : C256.on P) (hQ : C256.on Q) (m l : Nat) : C256.add (C256.add (C256.mul m P) (C256.mul l Q)) P = C256.add (C256.mul (m + 1) P) (C256.mul l Q) := by
  have om := C256.on_mul hP m
  have ol := C256.on_mul hQ l
  rw [C256.add_assoc om ol hP, C256.add_comm ol hP, ← C256.add_assoc om hP ol]
  rfl
theorem bit_nat {j : Int} {i : Nat} (hj : 0 ≤ j) (hi : i ≤ 255) : bitF j (i : Int) = ((j.toNat / 2 ^ i % 2 : Nat) : Int) := by
  unfold bitF
  rw [if_neg (by omega)]
  obtain ⟨n, rfl⟩ := Int.eq_ofNat_of_zero_le hj
  simp
theorem bs_RI {j k : Int} {A B : Sol} {P Q : Pt p256} (hA : RI A P) (hB : RI B Q) (hj : 0 ≤ j) (hk : 0 ≤ k) {L : Nat} (h256 : L ≤ 256) (bj : j.toNat < 2 ^ L) (bk : k.toNat < 2 ^ L) : ∀ n, n ≤ L →
    RI (bsN j k (L : Int) A B (plI A B) n) (C256.add (C256.mul (j.toNat / 2 ^ (L - n)) P) (C256.mul (k.toNat / 2 ^ (L - n)) Q))
  | 0, _ => by
    rw [Nat.sub_zero, Nat.div_eq_of_lt bj, Nat.div_eq_of_lt bk]
    exact RI.O
  | n + 1, hn => by
    have ih := bs_RI hA hB hj hk h256 bj bk n (by omega)
    have e1 : ∀ x : Nat, x / 2 ^ (L - n) = x / 2 ^ (L - (n + 1)) / 2 := fun x => by
      rw [Nat.div_div_eq_div_mul, ← Nat.pow_succ, show (L - (n + 1)).succ = L - n by omega]
    have ei : (L : Int) - 1 - (n : Int) = ((L - (n + 1) : Nat) : Int) := by omega
    rw [e1, e1] at ih
    simp only [bsN, ei, bit_nat hj (show L - (n + 1) ≤ 255 by omega), bit_nat hk (show L - (n + 1) ≤ 255 by omega)]
    generalize j.toNat / 2 ^ (L - (n + 1)) = w at *
    generalize k.toNat / 2 ^ (L - (n + 1)) = u at *
    have oP := hA.on
    have oQ := hB.on
    have t := ih.twice
    rw [dbl2 oP oQ] at t
    by_cases cw : w % 2 = 1
    · by_cases cu : u % 2 = 1
      · rw [if_pos ⟨by omega, by omega⟩]
        have := t.plus (hA.plus hB)
        rw [inc2 oP oQ, show w / 2 + w / 2 + 1 = w by omega, show u / 2 + u / 2 + 1 = u by omega] at this
        exact this
      · rw [if_neg (by omega), if_pos (by omega)]
        have := t.plus hA
        rw [incl oP oQ, show w / 2 + w / 2 + 1 = w by omega, show u / 2 + u / 2 = u by omega] at this
        exact this
    · by_cases cu : u % 2 = 1
      · rw [if_neg (by omega), if_neg (by omega), if_pos (by omega)]
        have := t.plus hB
        rw [incr oP oQ, show w / 2 + w / 2 = w by omega, show u / 2 + u / 2 + 1 = u by omega] at this
        exact this
      · rw [if_neg (by omega), if_neg (by omega), if_neg (by omega)]
        rw [show w / 2 + w / 2 = w by omega, show u / 2 + u / 2 = u by omega] at t
        exact t
theorem bot_RI {j k : Int} {A B : Sol} {P Q : Pt p256} (hA : RI A P) (hB : RI B Q) (hj : 0 ≤ j ∧ j < 115792089237316195423570985008687907853269984665640564039457584007913129639936) (hk : 0 ≤ k ∧ k < 115792089237316195423570985008687907853269984665640564039457584007913129639936) : RI (botF j k A B) (C256.add (C256.mul j.toNat P) (C256.mul k.toNat Q)) := by
  have lj := lenF_lt hj.1
  have lk := lenF_lt hk.1
  have mj := (lenF_bound hj.1 256 (by have := hj.2; exact this)).2
  have mk := (lenF_bound hk.1 256 (by have := hk.2; exact this)).2
  unfold botF
  obtain ⟨L, hL⟩ : ∃ L : Nat, max (lenF j) (lenF k) = (L : Int) := ⟨(max (lenF j) (lenF k)).toNat, by omega⟩
  rw [hL]
  have pw : ∀ {x : Int}, 0 ≤ x → 0 ≤ lenF x → lenF x ≤ L → x < 2 ^ (lenF x).toNat → x.toNat < 2 ^ L := by
    intro x x0 l0 l1 l2
    have a : (x.toNat : Int) < ((2 ^ (lenF x).toNat : Nat) : Int) := by rw [Int.toNat_of_nonneg x0]; simpa using l2
    have b : 2 ^ (lenF x).toNat ≤ 2 ^ L := Nat.pow_le_pow_right (by omega) (by omega)
    omega
  have r := bs_RI hA hB hj.1 hk.1 (L := L) (by omega) (pw hj.1 lj.1 (by omega) lj.2) (pw hk.1 lk.1 (by omega) lk.2) L (Nat.le_refl _)
  rw [Nat.sub_self, Nat.pow_zero, Nat.div_one, Nat.div_one] at r
  exact r
theorem mul_RI {k : Int} {A : Sol} {P : Pt p256} (hA : RI A P) (hk : 0 ≤ k ∧ k < 115792089237316195423570985008687907853269984665640564039457584007913129639936) : RI (mulF k A) (C256.mul k.toNat P) := by
  have := bot_RI hA RI.O hk (k := 0) (by omega)
  rwa [C256.mul_O, C256.add_O] at this
theorem mulP {k : Int} {A : Pt p256} (hA : C256.on A) (hk : 0 ≤ k ∧ k < 115792089237316195423570985008687907853269984665640564039457584007913129639936) : pnX (mulF k (soF (cB A) (cX A) (cY A))) = cX (C256.mul k.toNat A) ∧ pnY (mulF k (soF (cB A) (cX A) (cY A))) = cY (C256.mul k.toNat A) ∧ pnB (mulF k (soF (cB A) (cX A) (cY A))) = cB (C256.mul k.toNat A) := pn_RI (mul_RI (so_c hA) hk)
theorem ordP {A : Pt p256} (hA : C256.on A) : pnX (mulF 115792089210356248762697446949407573529996955224135760342422259061068512044369 (soF (cB A) (cX A) (cY A))) = cX .O ∧ pnY (mulF 115792089210356248762697446949407573529996955224135760342422259061068512044369 (soF (cB A) (cX A) (cY A))) = cY .O ∧ pnB (mulF 115792089210356248762697446949407573529996955224135760342422259061068512044369 (soF (cB A) (cX A) (cY A))) = cB .O := by
  have := mulP (k := 115792089210356248762697446949407573529996955224135760342422259061068512044369) hA (by decide)
  have e : (115792089210356248762697446949407573529996955224135760342422259061068512044369 : Int).toNat = n256 := rfl
  rwa [e, order256 A hA] at this
theorem mul2P {A : Pt p256} (hA : C256.on A) : pnX (mulF 2 (soF (cB A) (cX A) (cY A))) = cX (C256.add A A) ∧ pnY (mulF 2 (soF (cB A) (cX A) (cY A))) = cY (C256.add A A) ∧ pnB (mulF 2 (soF (cB A) (cX A) (cY A))) = cB (C256.add A A) := by
  have := mulP (k := 2) hA (by decide)
  have e : C256.mul (2 : Int).toNat A = C256.add A A := by
    show C256.add (C256.mul 1 A) A = _
    rw [C256.mul_one]
  rwa [e] at this
theorem mul0P {A : Pt p256} (hA : C256.on A) : pnX (mulF 0 (soF (cB A) (cX A) (cY A))) = cX .O ∧ pnY (mulF 0 (soF (cB A) (cX A) (cY A))) = cY .O ∧ pnB (mulF 0 (soF (cB A) (cX A) (cY A))) = cB .O := mulP (k := 0) hA (by decide)
def VCPointOrder (ax0 : Int) (ax1 : Int) (ax2 : Int) (ax3 : Int) (ay0 : Int) (ay1 : Int) (ay2 : Int) (ay3 : Int) (ai : Bool) (j0 : Int) (j1 : Int) (j2 : Int) (j3 : Int) (b0 : Int) (b1 : Int) (b2 : Int) (b3 : Int) : Prop :=
  (U64 ax0 /\ U64 ax1 /\ U64 ax2 /\ U64 ax3 /\ U64 ay0 /\ U64 ay1 /\ U64 ay2 /\ U64 ay3) /\ ∀ v1, v1 = onP (val4 ax0 ax1 ax2 ax3) (val4 ay0 ay1 ay2 ay3) ai -> ∀ (v2 : Bool), v2 = !v1 -> (v2 = true -> True /\ true = true) /\ (v2 = false -> (U64 j0 /\ U64 j1 /\ U64 j2 /\ U64 j3 /\ U64 b0 /\ U64 b1 /\ U64 b2 /\ U64 b3) /\ ∀ v3, v3 = val4 j0 j1 j2 j3 + val4 b0 b1 b2 b3 -> ∀ v4, v4 = (val4 j0 j1 j2 j3 + val4 b0 b1 b2 b3) / (115792089237316195423570985008687907853269984665640564039457584007913129639936 : Int) -> (U64 17562291160714782033 /\ U64 13611842547513532036 /\ U64 18446744073709551615 /\ U64 18446744069414584320 /\ U64 ax0 /\ U64 ax1 /\ U64 ax2 /\ U64 ax3 /\ U64 ay0 /\ U64 ay1 /\ U64 ay2 /\ U64 ay3) /\ ∀ v5, v5 = pnX (mulF (115792089210356248762697446949407573529996955224135760342422259061068512044369 : Int) (soF ai (val4 ax0 ax1 ax2 ax3) (val4 ay0 ay1 ay2 ay3))) -> ∀ v6, v6 = pnY (mulF (115792089210356248762697446949407573529996955224135760342422259061068512044369 : Int) (soF ai (val4 ax0 ax1 ax2 ax3) (val4 ay0 ay1 ay2 ay3))) -> ∀ v7, v7 = pnB (mulF (115792089210356248762697446949407573529996955224135760342422259061068512044369 : Int) (soF ai (val4 ax0 ax1 ax2 ax3) (val4 ay0 ay1 ay2 ay3))) -> ∀ (v8 : Bool), v8 = !(limb v5 0 == (0 : Int) && (limb v5 1 == (0 : Int) && (limb v5 2 == (0 : Int) && (limb v5 3 == (0 : Int) && true))) && (limb v6 0 == (0 : Int) && (limb v6 1 == (0 : Int) && (limb v6 2 == (0 : Int) && (limb v6 3 == (0 : Int) && true))) && (v7 == true && true))) -> (v8 = false -> ∀ v9, v9 = (v4 == (0 : Int)) -> (v9 = true -> (U64 (limb v3 0) /\ U64 (limb v3 1) /\ U64 (limb v3 2) /\ U64 (limb v3 3) /\ U64 ax0 /\ U64 ax1 /\ U64 ax2 /\ U64 ax3 /\ U64 ay0 /\ U64 ay1 /\ U64 ay2 /\ U64 ay3) /\ ∀ v10, v10 = pnX (mulF (val4 (limb v3 0) (limb v3 1) (limb v3 2) (limb v3 3)) (soF ai (val4 ax0 ax1 ax2 ax3) (val4 ay0 ay1 ay2 ay3))) -> ∀ v11, v11 = pnY (mulF (val4 (limb v3 0) (limb v3 1) (limb v3 2) (limb v3 3)) (soF ai (val4 ax0 ax1 ax2 ax3) (val4 ay0 ay1 ay2 ay3))) -> ∀ v12, v12 = pnB (mulF (val4 (limb v3 0) (limb v3 1) (limb v3 2) (limb v3 3)) (soF ai (val4 ax0 ax1 ax2 ax3) (val4 ay0 ay1 ay2 ay3))) -> (U64 j0 /\ U64 j1 /\ U64 j2 /\ U64 j3 /\ U64 ax0 /\ U64 ax1 /\ U64 ax2 /\ U64 ax3 /\ U64 ay0 /\ U64 ay1 /\ U64 ay2 /\ U64 ay3) /\ ∀ v13, v13 = pnX (mulF (val4 j0 j1 j2 j3) (soF ai (val4 ax0 ax1 ax2 ax3) (val4 ay0 ay1 ay2 ay3))) -> ∀ v14, v14 = pnY (mulF (val4 j0 j1 j2 j3) (soF ai (val4 ax0 ax1 ax2 ax3) (val4 ay0 ay1 ay2 ay3))) -> ∀ v15, v15 = pnB (mulF (val4 j0 j1 j2 j3) (soF ai (val4 ax0 ax1 ax2 ax3) (val4 ay0 ay1 ay2 ay3))) -> (U64 b0 /\ U64 b1 /\ U64 b2 /\ U64 b3 /\ U64 ax0 /\ U64 ax1 /\ U64 ax2 /\ U64 ax3 /\ U64 ay0 /\ U64 ay1 /\ U64 ay2 /\ U64 ay3) /\ ∀ v16, v16 = pnX (mulF (val4 b0 b1 b2 b3) (soF ai (val4 ax0 ax1 ax2 ax3) (val4 ay0 ay1 ay2 ay3))) -> ∀ v17, v17 = pnY (mulF (val4 b0 b1 b2 b3) (soF ai (val4 ax0 ax1 ax2 ax3) (val4 ay0 ay1 ay2 ay3))) -> ∀ v18, v18 = pnB (mulF (val4 b0 b1 b2 b3) (soF ai (val4 ax0 ax1 ax2 ax3) (val4 ay0 ay1 ay2 ay3))) -> (U64 (limb v13 0) /\ U64 (limb v13 1) /\ U64 (limb v13 2) /\ U64 (limb v13 3) /\ U64 (limb v14 0) /\ U64 (limb v14 1) /\ U64 (limb v14 2) /\ U64 (limb v14 3) /\ U64 (limb v16 0) /\ U64 (limb v16 1) /\ U64 (limb v16 2) /\ U64 (limb v16 3) /\ U64 (limb v17 0) /\ U64 (limb v17 1) /\ U64 (limb v17 2) /\ U64 (limb v17 3)) /\ ∀ v19, v19 = pnX (plI (soF v15 (val4 (limb v13 0) (limb v13 1) (limb v13 2) (limb v13 3)) (val4 (limb v14 0) (limb v14 1) (limb v14 2) (limb v14 3))) (soF v18 (val4 (limb v16 0) (limb v16 1) (limb v16 2) (limb v16 3)) (val4 (limb v17 0) (limb v17 1) (limb v17 2) (limb v17 3)))) -> ∀ v20, v20 = pnY (plI (soF v15 (val4 (limb v13 0) (limb v13 1) (limb v13 2) (limb v13 3)) (val4 (limb v14 0) (limb v14 1) (limb v14 2) (limb v14 3))) (soF v18 (val4 (limb v16 0) (limb v16 1) (limb v16 2) (limb v16 3)) (val4 (limb v17 0) (limb v17 1) (limb v17 2) (limb v17 3)))) -> ∀ v21, v21 = pnB (plI (soF v15 (val4 (limb v13 0) (limb v13 1) (limb v13 2) (limb v13 3)) (val4 (limb v14 0) (limb v14 1) (limb v14 2) (limb v14 3))) (soF v18 (val4 (limb v16 0) (limb v16 1) (limb v16 2) (limb v16 3)) (val4 (limb v17 0) (limb v17 1) (limb v17 2) (limb v17 3)))) -> ∀ (v22 : Bool), v22 = !(limb v10 0 == limb v19 0 && (limb v10 1 == limb v19 1 && (limb v10 2 == limb v19 2 && (limb v10 3 == limb v19 3 && true))) && (limb v11 0 == limb v20 0 && (limb v11 1 == limb v20 1 && (limb v11 2 == limb v20 2 && (limb v11 3 == limb v20 3 && true))) && (v12 == v21 && true))) -> (v22 = true -> false = true) /\ (v22 = false -> (U64 2 /\ U64 0 /\ U64 0 /\ U64 0 /\ U64 ax0 /\ U64 ax1 /\ U64 ax2 /\ U64 ax3 /\ U64 ay0 /\ U64 ay1 /\ U64 ay2 /\ U64 ay3) /\ ∀ v23, v23 = pnX (mulF (2 : Int) (soF ai (val4 ax0 ax1 ax2 ax3) (val4 ay0 ay1 ay2 ay3))) -> ∀ v24, v24 = pnY (mulF (2 : Int) (soF ai (val4 ax0 ax1 ax2 ax3) (val4 ay0 ay1 ay2 ay3))) -> ∀ v25, v25 = pnB (mulF (2 : Int) (soF ai (val4 ax0 ax1 ax2 ax3) (val4 ay0 ay1 ay2 ay3))) -> (U64 ax0 /\ U64 ax1 /\ U64 ax2 /\ U64 ax3 /\ U64 ay0 /\ U64 ay1 /\ U64 ay2 /\ U64 ay3 /\ U64 ax0 /\ U64 ax1 /\ U64 ax2 /\ U64 ax3 /\ U64 ay0 /\ U64 ay1 /\ U64 ay2 /\ U64 ay3) /\ ∀ v26, v26 = pnX (plI (soF ai (val4 ax0 ax1 ax2 ax3) (val4 ay0 ay1 ay2 ay3)) (soF ai (val4 ax0 ax1 ax2 ax3) (val4 ay0 ay1 ay2 ay3))) -> ∀ v27, v27 = pnY (plI (soF ai (val4 ax0 ax1 ax2 ax3) (val4 ay0 ay1 ay2 ay3)) (soF ai (val4 ax0 ax1 ax2 ax3) (val4 ay0 ay1 ay2 ay3))) -> ∀ v28, v28 = pnB (plI (soF ai (val4 ax0 ax1 ax2 ax3) (val4 ay0 ay1 ay2 ay3)) (soF ai (val4 ax0 ax1 ax2 ax3) (val4 ay0 ay1 ay2 ay3))) -> ∀ v29, v29 = (limb v23 0 == limb v26 0 && (limb v23 1 == limb v26 1 && (limb v23 2 == limb v26 2 && (limb v23 3 == limb v26 3 && true))) && (limb v24 0 == limb v27 0 && (limb v24 1 == limb v27 1 && (limb v24 2 == limb v27 2 && (limb v24 3 == limb v27 3 && true))) && (v25 == v28 && true))) -> (v29 = true -> (U64 0 /\ U64 0 /\ U64 0 /\ U64 0 /\ U64 ax0 /\ U64 ax1 /\ U64 ax2 /\ U64 ax3 /\ U64 ay0 /\ U64 ay1 /\ U64 ay2 /\ U64 ay3) /\ ∀ v30, v30 = pnX (mulF (0 : Int) (soF ai (val4 ax0 ax1 ax2 ax3) (val4 ay0 ay1 ay2 ay3))) -> ∀ v31, v31 = pnY (mulF (0 : Int) (soF ai (val4 ax0 ax1 ax2 ax3) (val4 ay0 ay1 ay2 ay3))) -> ∀ v32, v32 = pnB (mulF (0 : Int) (soF ai (val4 ax0 ax1 ax2 ax3) (val4 ay0 ay1 ay2 ay3))) -> ∀ v33, v33 = (limb v30 0 == (0 : Int) && (limb v30 1 == (0 : Int) && (limb v30 2 == (0 : Int) && (limb v30 3 == (0 : Int) && true))) && (limb v31 0 == (0 : Int) && (limb v31 1 == (0 : Int) && (limb v31 2 == (0 : Int) && (limb v31 3 == (0 : Int) && true))) && (v32 == true && true))) -> (v33 = true -> True /\ true = true) /\ (v33 = false -> false = true)) /\ (v29 = false -> false = true))) /\ (v9 = false -> (U64 2 /\ U64 0 /\ U64 0 /\ U64 0 /\ U64 ax0 /\ U64 ax1 /\ U64 ax2 /\ U64 ax3 /\ U64 ay0 /\ U64 ay1 /\ U64 ay2 /\ U64 ay3) /\ ∀ v34, v34 = pnX (mulF (2 : Int) (soF ai (val4 ax0 ax1 ax2 ax3) (val4 ay0 ay1 ay2 ay3))) -> ∀ v35, v35 = pnY (mulF (2 : Int) (soF ai (val4 ax0 ax1 ax2 ax3) (val4 ay0 ay1 ay2 ay3))) -> ∀ v36, v36 = pnB (mulF (2 : Int) (soF ai (val4 ax0 ax1 ax2 ax3) (val4 ay0 ay1 ay2 ay3))) -> (U64 ax0 /\ U64 ax1 /\ U64 ax2 /\ U64 ax3 /\ U64 ay0 /\ U64 ay1 /\ U64 ay2 /\ U64 ay3 /\ U64 ax0 /\ U64 ax1 /\ U64 ax2 /\ U64 ax3 /\ U64 ay0 /\ U64 ay1 /\ U64 ay2 /\ U64 ay3) /\ ∀ v37, v37 = pnX (plI (soF ai (val4 ax0 ax1 ax2 ax3) (val4 ay0 ay1 ay2 ay3)) (soF ai (val4 ax0 ax1 ax2 ax3) (val4 ay0 ay1 ay2 ay3))) -> ∀ v38, v38 = pnY (plI (soF ai (val4 ax0 ax1 ax2 ax3) (val4 ay0 ay1 ay2 ay3)) (soF ai (val4 ax0 ax1 ax2 ax3) (val4 ay0 ay1 ay2 ay3))) -> ∀ v39, v39 = pnB (plI (soF ai (val4 ax0 ax1 ax2 ax3) (val4 ay0 ay1 ay2 ay3)) (soF ai (val4 ax0 ax1 ax2 ax3) (val4 ay0 ay1 ay2 ay3))) -> ∀ v40, v40 = (limb v34 0 == limb v37 0 && (limb v34 1 == limb v37 1 && (limb v34 2 == limb v37 2 && (limb v34 3 == limb v37 3 && true))) && (limb v35 0 == limb v38 0 && (limb v35 1 == limb v38 1 && (limb v35 2 == limb v38 2 && (limb v35 3 == limb v38 3 && true))) && (v36 == v39 && true))) -> (v40 = true -> (U64 0 /\ U64 0 /\ U64 0 /\ U64 0 /\ U64 ax0 /\ U64 ax1 /\ U64 ax2 /\ U64 ax3 /\ U64 ay0 /\ U64 ay1 /\ U64 ay2 /\ U64 ay3) /\ ∀ v41, v41 = pnX (mulF (0 : Int) (soF ai (val4 ax0 ax1 ax2 ax3) (val4 ay0 ay1 ay2 ay3))) -> ∀ v42, v42 = pnY (mulF (0 : Int) (soF ai (val4 ax0 ax1 ax2 ax3) (val4 ay0 ay1 ay2 ay3))) -> ∀ v43, v43 = pnB (mulF (0 : Int) (soF ai (val4 ax0 ax1 ax2 ax3) (val4 ay0 ay1 ay2 ay3))) -> ∀ v44, v44 = (limb v41 0 == (0 : Int) && (limb v41 1 == (0 : Int) && (limb v41 2 == (0 : Int) && (limb v41 3 == (0 : Int) && true))) && (limb v42 0 == (0 : Int) && (limb v42 1 == (0 : Int) && (limb v42 2 == (0 : Int) && (limb v42 3 == (0 : Int) && true))) && (v43 == true && true))) -> (v44 = true -> True /\ true = true) /\ (v44 = false -> false = true)) /\ (v40 = false -> false = true))) /\ (v8 = true -> false = true))
theorem tiePointOrder (w0 : World) (ax0 : Int) (ax1 : Int) (ax2 : Int) (ax3 : Int) (ay0 : Int) (ay1 : Int) (ay2 : Int) (ay3 : Int) (ai : Bool) (j0 : Int) (j1 : Int) (j2 : Int) (j3 : Int) (b0 : Int) (b1 : Int) (b2 : Int) (b3 : Int) : VCPointOrder ax0 ax1 ax2 ax3 ay0 ay1 ay2 ay3 ai j0 j1 j2 j3 b0 b1 b2 b3 = ((recN (GC Try.prog pt14Spec w0) 60).call 12 [.agg [.int .u64 (.sym ax0), .int .u64 (.sym ax1), .int .u64 (.sym ax2), .int .u64 (.sym ax3), .int .u64 (.sym ay0), .int .u64 (.sym ay1), .int .u64 (.sym ay2), .int .u64 (.sym ay3), .bool (.sym ai)], .agg [.int .u64 (.sym j0), .int .u64 (.sym j1), .int .u64 (.sym j2), .int .u64 (.sym j3)], .agg [.int .u64 (.sym b0), .int .u64 (.sym b1), .int .u64 (.sym b2), .int .u64 (.sym b3)]] [] (fun v _ => isTrue v)) := by kernel_rfl
theorem purePointOrder (ax0 ax1 ax2 ax3 ay0 ay1 ay2 ay3 : Int) (ai : Bool) (j0 j1 j2 j3 b0 b1 b2 b3 : Int) (h : U64 ax0 ∧ U64 ax1 ∧ U64 ax2 ∧ U64 ax3 ∧ U64 ay0 ∧ U64 ay1 ∧ U64 ay2 ∧ U64 ay3 ∧ U64 j0 ∧ U64 j1 ∧ U64 j2 ∧ U64 j3 ∧ U64 b0 ∧ U64 b1 ∧ U64 b2 ∧ U64 b3) : VCPointOrder ax0 ax1 ax2 ax3 ay0 ay1 ay2 ay3 ai j0 j1 j2 j3 b0 b1 b2 b3 := by
  obtain ⟨hax0, hax1, hax2, hax3, hay0, hay1, hay2, hay3, hj0, hj1, hj2, hj3, hb0, hb1, hb2, hb3⟩ := h
  have eax0 : U64 ax0 = True := eq_true hax0
  have eax1 : U64 ax1 = True := eq_true hax1
  have eax2 : U64 ax2 = True := eq_true hax2
  have eax3 : U64 ax3 = True := eq_true hax3
  have eay0 : U64 ay0 = True := eq_true hay0
  have eay1 : U64 ay1 = True := eq_true hay1
  have eay2 : U64 ay2 = True := eq_true hay2
  have eay3 : U64 ay3 = True := eq_true hay3
  have ej0 : U64 j0 = True := eq_true hj0
  have ej1 : U64 j1 = True := eq_true hj1
  have ej2 : U64 j2 = True := eq_true hj2
  have ej3 : U64 j3 = True := eq_true hj3
  have eb0 : U64 b0 = True := eq_true hb0
  have eb1 : U64 b1 = True := eq_true hb1
  have eb2 : U64 b2 = True := eq_true hb2
  have eb3 : U64 b3 = True := eq_true hb3
  have nax := val4_lt hax0 hax1 hax2 hax3
  have nay := val4_lt hay0 hay1 hay2 hay3
  have nj := val4_lt hj0 hj1 hj2 hj3
  have nb := val4_lt hb0 hb1 hb2 hb3
  refine ⟨⟨hax0, hax1, hax2, hax3, hay0, hay1, hay2, hay3⟩, fun v1 h1 v2 h2 => ⟨fun _ => ⟨trivial, rfl⟩, fun z2 => ?_⟩⟩
  obtain ⟨A, oA, xA, yA, iA⟩ := pt_of (h1.symm.trans (nt_of h2 z2)) nax.1 nay.1
  clear h1 h2 z2
  subst iA
  have q0 : val4 0 0 0 0 = 0 := rfl
  have z0 : U64 0 = True := eq_true U64_0
  have z2 : U64 2 = True := eq_true (by decide)
  have p0 : U64 17562291160714782033 = True := eq_true (by decide)
  have p1 : U64 13611842547513532036 = True := eq_true (by decide)
  have p2 : U64 18446744073709551615 = True := eq_true (by decide)
  have p3 : U64 18446744069414584320 = True := eq_true (by decide)
  have vs := val4_limb (val4 j0 j1 j2 j3 + val4 b0 b1 b2 b3)
  have ms : 0 ≤ (val4 j0 j1 j2 j3 + val4 b0 b1 b2 b3) % 115792089237316195423570985008687907853269984665640564039457584007913129639936 ∧ (val4 j0 j1 j2 j3 + val4 b0 b1 b2 b3) % 115792089237316195423570985008687907853269984665640564039457584007913129639936 < 115792089237316195423570985008687907853269984665640564039457584007913129639936 := by omega
  obtain ⟨s1, s2, s3⟩ := mulP (k := (val4 j0 j1 j2 j3 + val4 b0 b1 b2 b3) % 115792089237316195423570985008687907853269984665640564039457584007913129639936) oA ms
  obtain ⟨t1, t2, t3⟩ := mulP (k := val4 j0 j1 j2 j3) oA nj
  obtain ⟨u1, u2, u3⟩ := mulP (k := val4 b0 b1 b2 b3) oA nb
  have oJ := C256.on_mul oA (val4 j0 j1 j2 j3).toNat
  have oK := C256.on_mul oA (val4 b0 b1 b2 b3).toNat
  obtain ⟨w1, w2, w3⟩ := sumP oJ oK
  obtain ⟨y1, y2, y3⟩ := sumP oA oA
  obtain ⟨m1, m2, m3⟩ := ordP oA
  obtain ⟨k1, k2, k3⟩ := mul2P oA
  obtain ⟨g1, g2, g3⟩ := mul0P oA
  by_cases c : (val4 j0 j1 j2 j3 + val4 b0 b1 b2 b3) / 115792089237316195423570985008687907853269984665640564039457584007913129639936 = 0
  · have c' : ((val4 j0 j1 j2 j3 + val4 b0 b1 b2 b3) / 115792089237316195423570985008687907853269984665640564039457584007913129639936 == 0) = true := by rw [c]; rfl
    have ad : C256.mul ((val4 j0 j1 j2 j3 + val4 b0 b1 b2 b3) % 115792089237316195423570985008687907853269984665640564039457584007913129639936).toNat A = C256.add (C256.mul (val4 j0 j1 j2 j3).toNat A) (C256.mul (val4 b0 b1 b2 b3).toNat A) := by
      rw [← C256.mul_add oA]; congr 1; omega
    rw [ad] at s1 s2 s3
    simp only [forall_eq, ulP, eax0, eax1, eax2, eax3, eay0, eay1, eay2, eay3, ej0, ej1, ej2, ej3, eb0, eb1, eb2, eb3, z0, z2, p0, p1, p2, p3, q0, xA, yA, lcX, lcY, so_true, vs, t1, t2, t3, u1, u2, u3, y1, y2, y3, m1, m2, m3, k1, k2, k3, g1, g2, g3, cO.1, cO.2.1, cO.2.2, limb0, beq_self_eq_true, Bool.and_self, Bool.and_true, Bool.not_true, Bool.not_false, true_and, and_true, reduceCtorEq, false_implies, forall_const, and_self, c', s1, s2, s3, w1, w2, w3]
  · have c' : ((val4 j0 j1 j2 j3 + val4 b0 b1 b2 b3) / 115792089237316195423570985008687907853269984665640564039457584007913129639936 == 0) = false := beq_eq_false_iff_ne.2 c
    simp only [forall_eq, ulP, eax0, eax1, eax2, eax3, eay0, eay1, eay2, eay3, ej0, ej1, ej2, ej3, eb0, eb1, eb2, eb3, z0, z2, p0, p1, p2, p3, q0, xA, yA, lcX, lcY, so_true, vs, t1, t2, t3, u1, u2, u3, y1, y2, y3, m1, m2, m3, k1, k2, k3, g1, g2, g3, cO.1, cO.2.1, cO.2.2, limb0, beq_self_eq_true, Bool.and_self, Bool.and_true, Bool.not_true, Bool.not_false, true_and, and_true, reduceCtorEq, false_implies, forall_const, and_self, c']
theorem walkPointOrder (ax0 : Int) (ax1 : Int) (ax2 : Int) (ax3 : Int) (ay0 : Int) (ay1 : Int) (ay2 : Int) (ay3 : Int) (ai : Bool) (j0 : Int) (j1 : Int) (j2 : Int) (j3 : Int) (b0 : Int) (b1 : Int) (b2 : Int) (b3 : Int) (w0 : World) (hax0 : (Lit.int .u64 ax0).wf = true) (hax1 : (Lit.int .u64 ax1).wf = true) (hax2 : (Lit.int .u64 ax2).wf = true) (hax3 : (Lit.int .u64 ax3).wf = true) (hay0 : (Lit.int .u64 ay0).wf = true) (hay1 : (Lit.int .u64 ay1).wf = true) (hay2 : (Lit.int .u64 ay2).wf = true) (hay3 : (Lit.int .u64 ay3).wf = true) (hj0 : (Lit.int .u64 j0).wf = true) (hj1 : (Lit.int .u64 j1).wf = true) (hj2 : (Lit.int .u64 j2).wf = true) (hj3 : (Lit.int .u64 j3).wf = true) (hb0 : (Lit.int .u64 b0).wf = true) (hb1 : (Lit.int .u64 b1).wf = true) (hb2 : (Lit.int .u64 b2).wf = true) (hb3 : (Lit.int .u64 b3).wf = true) : Calls Try.prog 12 #[.agg #[.int .u64 ax0, .int .u64 ax1, .int .u64 ax2, .int .u64 ax3, .int .u64 ay0, .int .u64 ay1, .int .u64 ay2, .int .u64 ay3, .bool ai], .agg #[.int .u64 j0, .int .u64 j1, .int .u64 j2, .int .u64 j3], .agg #[.int .u64 b0, .int .u64 b1, .int .u64 b2, .int .u64 b3]] w0 fun e w' => e = .returned (.bool true) ∧ Below w0.heap.size w0 w' :=
  law_tie (G := GC Try.prog pt14Spec w0) (gok w0 namesOk_ mixed_ pt14_ok) (n := 60) (f := 12) (args := [.agg [.int .u64 (.sym ax0), .int .u64 (.sym ax1), .int .u64 (.sym ax2), .int .u64 (.sym ax3), .int .u64 (.sym ay0), .int .u64 (.sym ay1), .int .u64 (.sym ay2), .int .u64 (.sym ay3), .bool (.sym ai)], .agg [.int .u64 (.sym j0), .int .u64 (.sym j1), .int .u64 (.sym j2), .int .u64 (.sym j3)], .agg [.int .u64 (.sym b0), .int .u64 (.sym b1), .int .u64 (.sym b2), .int .u64 (.sym b3)]]) (by kernel_rfl) (VCPointOrder ax0 ax1 ax2 ax3 ay0 ay1 ay2 ay3 ai j0 j1 j2 j3 b0 b1 b2 b3) (tiePointOrder w0 ax0 ax1 ax2 ax3 ay0 ay1 ay2 ay3 ai j0 j1 j2 j3 b0 b1 b2 b3) (purePointOrder ax0 ax1 ax2 ax3 ay0 ay1 ay2 ay3 ai j0 j1 j2 j3 b0 b1 b2 b3 ⟨wf_u64 hax0, wf_u64 hax1, wf_u64 hax2, wf_u64 hax3, wf_u64 hay0, wf_u64 hay1, wf_u64 hay2, wf_u64 hay3, wf_u64 hj0, wf_u64 hj1, wf_u64 hj2, wf_u64 hj3, wf_u64 hb0, wf_u64 hb1, wf_u64 hb2, wf_u64 hb3⟩)

end Go.Proofs.Ytaaobpalpcdlbaa.Bits
