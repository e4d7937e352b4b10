import Derived.Test.YtaaobpalpcdlbaaDoorSxR
import Derived.Test.YtaaobpalpcdlbaaDoorProg
import Derived.Test.YtaaobpalpcdlbaaDoorNum5
import Derived.Test.YtaaobpalpcdlbaaDoorBits2
import Derived.KernelRfl
namespace Go.Proofs.YtaaobpalpcdlbaaDoor.Bits
open Go Go.Sx Go.RowKit
set_option linter.unusedVariables false
set_option maxRecDepth 100000
def W1 : Int := 18446744073709551616
def vN (f : Int → Int) (o : Int) : Nat → Int
  | 0 => 0
  | n + 1 => vN f o n + f (o + (n : Int)) * W1 ^ n
def W9 (f : Int → Int) (n : Int) : Prop := ∀ j, 0 ≤ j → j < n → 0 ≤ f j ∧ f j ≤ 18446744073709551615
def slBSpec (S : St) (t : Nat) : Nat := match nth S.ts t with | .slice b _ _ _ => b | .ptr b _ => b | .osl b _ _ _ _ => b | .fsl b _ _ => b | _ => 0
def oOffAtSpec (S : St) (t : Nat) : Int := match nth S.ts t with | .osl _ o _ _ _ => o | _ => 0
def oLenAtSpec (S : St) (t : Nat) : Int := match nth S.ts t with | .osl _ _ _ n _ => n | _ => 0
def setWSpec (S : St) (b o : Nat) (f : Nat → Int) : Nat → St
  | 0 => S
  | n + 1 => hset (setWSpec S b o f n) b (o + n) (.int .u64 (.sym (f n)))
def qestF (un um dm : Int) : Int := if un < dm then (un * 18446744073709551616 + um) / dm else 18446744073709551615
def takeR (f d : Int → Int) (o n q k c b : Int) (g : Int → Int) : Prop := ∃ K : Nat, k = (K : Int) ∧ k ≤ n ∧
  vN g o K = vN f o K - q * vN d 0 K + (c + b) * W1 ^ K ∧ (∀ j, j < o ∨ o + k ≤ j → g j = f j) ∧ W9 g 9 ∧ (0 ≤ c ∧ c ≤ 18446744073709551615) ∧ 0 ≤ b ∧ b ≤ 1
def giveR (f d : Int → Int) (o n k c : Int) (g : Int → Int) : Prop := ∃ K : Nat, k = (K : Int) ∧ k ≤ n ∧
  vN g o K + c * W1 ^ K = vN f o K + vN d 0 K ∧ (∀ j, j < o ∨ o + k ≤ j → g j = f j) ∧ W9 g 9 ∧ 0 ≤ c ∧ c ≤ 1
def partR (f d : Int → Int) (o n q0 b0 q b : Int) (g : Int → Int) : Prop := ∃ N : Nat, n = (N : Int) ∧
  (vN g o (N + 1) - b * W1 ^ (N + 1) + q * vN d 0 N = vN f o (N + 1) - b0 * W1 ^ (N + 1) + q0 * vN d 0 N ∧ vN g o (N + 1) - b * W1 ^ (N + 1) < vN d 0 N) ∧
    (∀ j, j < o ∨ o + n < j → g j = f j) ∧ W9 g 9 ∧ (0 ≤ q ∧ q ≤ 18446744073709551615) ∧ 0 ≤ b ∧ b ≤ 1
def partM (o n b : Int) (g : Int → Int) : Nat := (W1 ^ (n.toNat + 1) - (vN g o (n.toNat + 1) - b * W1 ^ (n.toNat + 1))).toNat
def divR (n U i : Int) (u q d : Int → Int) : Prop := ∃ I N : Nat, (i = (I : Int) - 1 ∧ n = (N : Int) ∧ I + N ≤ 9) ∧
  vN u 0 (I + N) + vN d 0 N * W1 ^ I * vN q I (8 - I) = U ∧ vN u I N < vN d 0 N ∧ (I + N < 9 → u ((I : Int) + N) = 0) ∧ W9 u 9 ∧ W9 q 8
def remR (u : Int → Int) (n k s : Int) (r : Int → Int) : Prop := (0 ≤ k ∧ k ≤ n) ∧ ∀ j, 0 ≤ j → j < 4 → r j = if j < k then u j / 2 ^ s.toNat + u (j + 1) % 2 ^ s.toNat * 2 ^ (64 - s.toNat) else 0
def val9w (a b c d e f g h i : Int) : Int := val8 a b c d e f g h + i * 13407807929942597099574024998205846127479365820592393377723561443721764030073546976801874298166903427690031858186486050853753882811946569946433649006084096
def takeASpec : St → Inv := fun S =>
  { ι := Int × Int × Int × (Int → Int)
    T := fun p => stS (keepS (setF S (slBSpec S 0) (flen S (slBSpec S 0)) [.int .u64 p.2.2.2]) [0, 1, 2, 14, 15]) [(16, .int .i64 (.sym p.1)), (7, .int .u64 (.sym p.2.1)), (8, .int .u64 (.sym p.2.2.1))]
    R := fun p => takeR (fat S (slBSpec S 0) 0) (fat S (slBSpec S 1) 0) (oOffAtSpec S 0) (iat S 15) (iat S 2) p.1 p.2.1 p.2.2.1 p.2.2.2
    μ := fun p => (iat S 15 - p.1).toNat }
def giveASpec : St → Inv := fun S =>
  { ι := Int × Int × (Int → Int)
    T := fun p => stS (keepS (setF S (slBSpec S 0) (flen S (slBSpec S 0)) [.int .u64 p.2.2]) [0, 1, 8, 9]) [(10, .int .i64 (.sym p.1)), (5, .int .u64 (.sym p.2.1))]
    R := fun p => giveR (fat S (slBSpec S 0) 0) (fat S (slBSpec S 1) 0) (oOffAtSpec S 0) (iat S 9) p.1 p.2.1 p.2.2
    μ := fun p => (iat S 9 - p.1).toNat }
def partASpec : St → Inv := fun S =>
  { ι := Int × Int × (Int → Int)
    T := fun p => stS (keepS (setF S (slBSpec S 0) (flen S (slBSpec S 0)) [.int .u64 p.2.2]) [0, 1, 4, 5]) [(6, .int .u64 (.sym p.1)), (7, .int .u64 (.sym p.2.1))]
    R := fun p => partR (fat S (slBSpec S 0) 0) (fat S (slBSpec S 1) 0) (oOffAtSpec S 0) (iat S 5) (iat S 6) (iat S 7) p.1 p.2.1 p.2.2
    μ := fun p => partM (oOffAtSpec S 0) (iat S 5) p.2.1 p.2.2 }
def partQSpec : St → Inv := fun S =>
  { ι := Int
    T := fun q => stS (keepS S [0, 1, 4, 5]) [(6, .int .u64 (.sym q))]
    R := fun q => q = qestF (iat S 13) (fat S (slBSpec S 0) 0 (oOffAtSpec S 0 + (iat S 5 - 1))) (iat S 18)
    μ := fun _ => 0 }
def divASpec : St → Inv := fun S =>
  { ι := Int × (Int → Int) × (Int → Int) × (Int → Int)
    T := fun p => stS (keepS (setF (setF (setF S (slBSpec S 13) 9 [.int .u64 p.2.2.2]) (slBSpec S 14) 9 [.int .u64 p.2.1]) (slBSpec S 15) 8 [.int .u64 p.2.2.1]) [3, 4, 5, 6, 7, 8, 9, 10, 11, 12, 13, 14, 15]) [(16, .int .i64 (.sym p.1))]
    R := fun p => (p.2.2.2 0 = hat S (slBSpec S 13) 0 ∧ p.2.2.2 1 = hat S (slBSpec S 13) 1 ∧ p.2.2.2 2 = hat S (slBSpec S 13) 2 ∧ p.2.2.2 3 = hat S (slBSpec S 13) 3) ∧
      divR (iat S 11) (val9w (hat S (slBSpec S 14) 0) (hat S (slBSpec S 14) 1) (hat S (slBSpec S 14) 2) (hat S (slBSpec S 14) 3) (hat S (slBSpec S 14) 4) (hat S (slBSpec S 14) 5) (hat S (slBSpec S 14) 6) (hat S (slBSpec S 14) 7) (hat S (slBSpec S 14) 8)) p.1 p.2.1 p.2.2.1 p.2.2.2
    μ := fun p => (p.1 + 1).toNat }
def remASpec : St → Inv := fun S =>
  { ι := Int × (Int → Int)
    T := fun p => stS (keepS (setF S (slBSpec S 17) 4 [.int .u64 p.2]) [3, 4, 5, 6, 7, 8, 9, 11, 12, 14, 15, 17, 82]) [(83, .int .i64 (.sym p.1))]
    R := fun p => remR (fat S (slBSpec S 14) 0) (iat S 82) p.1 (iat S 12) p.2
    μ := fun p => (iat S 82 - p.1).toNat }
def dv6AnnSpec : Anns := [(8, 0, divASpec), (8, 2, remASpec), (36, 0, partASpec), (58, 0, takeASpec), (59, 0, giveASpec)]
def dv6CutSpec : Anns := [(36, 100019, partQSpec)]
def dv6Spec : List (FuncId × CSpec) := [(21, lenSpec), (35, shiftedSpec), (57, div64Spec), (61, mul64Spec), (42, add64Spec), (44, sub64Spec)]
theorem dv6_ok : SpecsOk Tryd.prog dv6Spec := ⟨len_ok, shifted_ok, div64_ok, mul64_ok, add64_ok, sub64_ok, trivial⟩
def qF (lo hi m : Int) : Int := if m = 0 then 0 else (hi * 115792089237316195423570985008687907853269984665640564039457584007913129639936 + lo) / m
def rF (lo hi m : Int) : Int := if m = 0 then 0 else (hi * 115792089237316195423570985008687907853269984665640564039457584007913129639936 + lo) % m
--@SQUEEZE
def divSpec : CSpec
  | [.agg [.int .u64 lo0, .int .u64 lo1, .int .u64 lo2, .int .u64 lo3], .agg [.int .u64 hi0, .int .u64 hi1, .int .u64 hi2, .int .u64 hi3], .agg [.int .u64 m0, .int .u64 m1, .int .u64 m2, .int .u64 m3]], k => ((U64 lo0.val) ∧ (U64 lo1.val) ∧ (U64 lo2.val) ∧ (U64 lo3.val) ∧ (U64 hi0.val) ∧ (U64 hi1.val) ∧ (U64 hi2.val) ∧ (U64 hi3.val) ∧ (U64 m0.val) ∧ (U64 m1.val) ∧ (U64 m2.val) ∧ (U64 m3.val)) ∧ (∀ r0 : Int, r0 = (qF (val4 lo0.val lo1.val lo2.val lo3.val) (val4 hi0.val hi1.val hi2.val hi3.val) (val4 m0.val m1.val m2.val m3.val)) → ∀ r1 : Int, r1 = (qF (val4 lo0.val lo1.val lo2.val lo3.val) (val4 hi0.val hi1.val hi2.val hi3.val) (val4 m0.val m1.val m2.val m3.val) / 115792089237316195423570985008687907853269984665640564039457584007913129639936) → ∀ r2 : Int, r2 = (rF (val4 lo0.val lo1.val lo2.val lo3.val) (val4 hi0.val hi1.val hi2.val hi3.val) (val4 m0.val m1.val m2.val m3.val)) → ∀ r3 : Int, r3 = ((if (val4 m0.val m1.val m2.val m3.val) = 0 then 13 else 0)) → k (.tup [.agg [.int .u64 (.sym (limb r0 0)), .int .u64 (.sym (limb r0 1)), .int .u64 (.sym (limb r0 2)), .int .u64 (.sym (limb r0 3))], .agg [.int .u64 (.sym (limb r1 0)), .int .u64 (.sym (limb r1 1)), .int .u64 (.sym (limb r1 2)), .int .u64 (.sym (limb r1 3))], .agg [.int .u64 (.sym (limb r2 0)), .int .u64 (.sym (limb r2 1)), .int .u64 (.sym (limb r2 2)), .int .u64 (.sym (limb r2 3))], .int .i64 (.sym r3)]))
  | _, _ => False
@[simp] abbrev GDiv1 (y0 : Int) : Prop := y0 = y0 ∧ y0 = y0 ∧ y0 = y0 ∧ y0 = y0 ∧ True
@[simp] abbrev GDiv2 (y0 y1 y2 y3 : Int) : Prop := y0 = y0 ∧ y1 = y1 ∧ y2 = y2 ∧ y3 = y3 ∧ True
@[simp] abbrev GDiv3 (y0 y1 y2 : Int) : Prop := y2 = y2 ∧ y0 = y0 ∧ y1 = y1
@[simp] abbrev EDiv (y : Int) : Prop := y = y
def VCDiv (lo0 : Int) (lo1 : Int) (lo2 : Int) (lo3 : Int) (hi0 : Int) (hi1 : Int) (hi2 : Int) (hi3 : Int) (m0 : Int) (m1 : Int) (m2 : Int) (m3 : Int) : Prop :=
  (U64 m0 /\ U64 m1 /\ U64 m2 /\ U64 m3) /\ ∀ v1, v1 = lenF (val4 m0 m1 m2 m3) -> ∀ v2, v2 = (v1 == (0 : Int)) -> (v2 = true -> ((IntKind.u64 = IntKind.u64 /\ 0 = limb (qF (val4 lo0 lo1 lo2 lo3) (val4 hi0 hi1 hi2 hi3) (val4 m0 m1 m2 m3)) 0) /\ (IntKind.u64 = IntKind.u64 /\ 0 = limb (qF (val4 lo0 lo1 lo2 lo3) (val4 hi0 hi1 hi2 hi3) (val4 m0 m1 m2 m3)) 1) /\ (IntKind.u64 = IntKind.u64 /\ 0 = limb (qF (val4 lo0 lo1 lo2 lo3) (val4 hi0 hi1 hi2 hi3) (val4 m0 m1 m2 m3)) 2) /\ (IntKind.u64 = IntKind.u64 /\ 0 = limb (qF (val4 lo0 lo1 lo2 lo3) (val4 hi0 hi1 hi2 hi3) (val4 m0 m1 m2 m3)) 3) /\ True) /\ ((IntKind.u64 = IntKind.u64 /\ 0 = limb (qF (val4 lo0 lo1 lo2 lo3) (val4 hi0 hi1 hi2 hi3) (val4 m0 m1 m2 m3) / (115792089237316195423570985008687907853269984665640564039457584007913129639936 : Int)) 0) /\ (IntKind.u64 = IntKind.u64 /\ 0 = limb (qF (val4 lo0 lo1 lo2 lo3) (val4 hi0 hi1 hi2 hi3) (val4 m0 m1 m2 m3) / (115792089237316195423570985008687907853269984665640564039457584007913129639936 : Int)) 1) /\ (IntKind.u64 = IntKind.u64 /\ 0 = limb (qF (val4 lo0 lo1 lo2 lo3) (val4 hi0 hi1 hi2 hi3) (val4 m0 m1 m2 m3) / (115792089237316195423570985008687907853269984665640564039457584007913129639936 : Int)) 2) /\ (IntKind.u64 = IntKind.u64 /\ 0 = limb (qF (val4 lo0 lo1 lo2 lo3) (val4 hi0 hi1 hi2 hi3) (val4 m0 m1 m2 m3) / (115792089237316195423570985008687907853269984665640564039457584007913129639936 : Int)) 3) /\ True) /\ ((IntKind.u64 = IntKind.u64 /\ 0 = limb (rF (val4 lo0 lo1 lo2 lo3) (val4 hi0 hi1 hi2 hi3) (val4 m0 m1 m2 m3)) 0) /\ (IntKind.u64 = IntKind.u64 /\ 0 = limb (rF (val4 lo0 lo1 lo2 lo3) (val4 hi0 hi1 hi2 hi3) (val4 m0 m1 m2 m3)) 1) /\ (IntKind.u64 = IntKind.u64 /\ 0 = limb (rF (val4 lo0 lo1 lo2 lo3) (val4 hi0 hi1 hi2 hi3) (val4 m0 m1 m2 m3)) 2) /\ (IntKind.u64 = IntKind.u64 /\ 0 = limb (rF (val4 lo0 lo1 lo2 lo3) (val4 hi0 hi1 hi2 hi3) (val4 m0 m1 m2 m3)) 3) /\ True) /\ (IntKind.i64 = IntKind.i64 /\ (13 : Int) = if val4 m0 m1 m2 m3 = (0 : Int) then (13 : Int) else (0 : Int)) /\ True) /\ (v2 = false -> ∀ v3, v3 = IntKind.i64.wrap (v1 + (63 : Int)) -> ∀ v4, v4 = IntKind.i64.wrap (v3.tdiv (64 : Int)) -> ∀ v5, v5 = IntKind.i64.wrap ((64 : Int) * v4) -> ∀ v6, v6 = IntKind.i64.wrap (v5 - v1) -> (U64 m0 /\ U64 m1 /\ U64 m2 /\ U64 m3 /\ U64 0 /\ U64 0 /\ U64 0 /\ U64 0 /\ I64 v6 /\ (0 : Int) ≤ v6 /\ v6 ≤ (63 : Int)) /\ ∀ v7, v7 = shw m0 0 v6.toNat -> ∀ v8, v8 = shw m1 m0 v6.toNat -> ∀ v9, v9 = shw m2 m1 v6.toNat -> ∀ v10, v10 = shw m3 m2 v6.toNat -> ∀ v11, v11 = shw 0 m3 v6.toNat -> ∀ v12, v12 = shw 0 0 v6.toNat -> ∀ v13, v13 = shw 0 0 v6.toNat -> ∀ v14, v14 = shw 0 0 v6.toNat -> ∀ v15, v15 = shw 0 0 v6.toNat -> (U64 lo0 /\ U64 lo1 /\ U64 lo2 /\ U64 lo3 /\ U64 hi0 /\ U64 hi1 /\ U64 hi2 /\ U64 hi3 /\ I64 v6 /\ (0 : Int) ≤ v6 /\ v6 ≤ (63 : Int)) /\ ∀ v16, v16 = shw lo0 0 v6.toNat -> ∀ v17, v17 = shw lo1 lo0 v6.toNat -> ∀ v18, v18 = shw lo2 lo1 v6.toNat -> ∀ v19, v19 = shw lo3 lo2 v6.toNat -> ∀ v20, v20 = shw hi0 lo3 v6.toNat -> ∀ v21, v21 = shw hi1 hi0 v6.toNat -> ∀ v22, v22 = shw hi2 hi1 v6.toNat -> ∀ v23, v23 = shw hi3 hi2 v6.toNat -> ∀ v24, v24 = shw 0 hi3 v6.toNat -> ∀ v25, v25 = IntKind.i64.wrap ((8 : Int) - v4) -> (∃ (x26 : Int × (Int -> Int) × (Int -> Int) × (Int -> Int)), ((x26.snd.snd.snd (0 : Int) = v7 /\ x26.snd.snd.snd (1 : Int) = v8 /\ x26.snd.snd.snd (2 : Int) = v9 /\ x26.snd.snd.snd (3 : Int) = v10) /\ divR v4 (val9w v16 v17 v18 v19 v20 v21 v22 v23 v24) x26.fst x26.snd.fst x26.snd.snd.fst x26.snd.snd.snd) /\ (True /\ True /\ True /\ True /\ True /\ True /\ EDiv 0 /\ EDiv v1 /\ EDiv v4 /\ EDiv v6 /\ True /\ True /\ True /\ v25 = x26.fst /\ True) /\ (GDiv2 lo0 lo1 lo2 lo3) /\ (GDiv2 hi0 hi1 hi2 hi3) /\ (GDiv2 m0 m1 m2 m3) /\ (GDiv1 0) /\ (GDiv1 0) /\ (GDiv1 0) /\ ((9 : Int) * (1 : Int) = (9 : Int) /\ v7 = x26.snd.snd.snd (0 : Int) /\ v8 = x26.snd.snd.snd (1 : Int) /\ v9 = x26.snd.snd.snd (2 : Int) /\ v10 = x26.snd.snd.snd (3 : Int) /\ v11 = x26.snd.snd.snd (4 : Int) /\ v12 = x26.snd.snd.snd (5 : Int) /\ v13 = x26.snd.snd.snd (6 : Int) /\ v14 = x26.snd.snd.snd (7 : Int) /\ v15 = x26.snd.snd.snd (8 : Int) /\ True) /\ ((9 : Int) * (1 : Int) = (9 : Int) /\ v16 = x26.snd.fst (0 : Int) /\ v17 = x26.snd.fst (1 : Int) /\ v18 = x26.snd.fst (2 : Int) /\ v19 = x26.snd.fst (3 : Int) /\ v20 = x26.snd.fst (4 : Int) /\ v21 = x26.snd.fst (5 : Int) /\ v22 = x26.snd.fst (6 : Int) /\ v23 = x26.snd.fst (7 : Int) /\ v24 = x26.snd.fst (8 : Int) /\ True) /\ ((8 : Int) * (1 : Int) = (8 : Int) /\ (0 : Int) = x26.snd.snd.fst (0 : Int) /\ (0 : Int) = x26.snd.snd.fst (1 : Int) /\ (0 : Int) = x26.snd.snd.fst (2 : Int) /\ (0 : Int) = x26.snd.snd.fst (3 : Int) /\ (0 : Int) = x26.snd.snd.fst (4 : Int) /\ (0 : Int) = x26.snd.snd.fst (5 : Int) /\ (0 : Int) = x26.snd.snd.fst (6 : Int) /\ (0 : Int) = x26.snd.snd.fst (7 : Int) /\ True) /\ True) /\ ∀ (v27 : Int × (Int -> Int) × (Int -> Int) × (Int -> Int)), (v27.snd.snd.snd (0 : Int) = v7 /\ v27.snd.snd.snd (1 : Int) = v8 /\ v27.snd.snd.snd (2 : Int) = v9 /\ v27.snd.snd.snd (3 : Int) = v10) /\ divR v4 (val9w v16 v17 v18 v19 v20 v21 v22 v23 v24) v27.fst v27.snd.fst v27.snd.snd.fst v27.snd.snd.snd -> ∀ v28, v28 = decide (v27.fst ≥ (0 : Int)) -> (v28 = true -> ∀ v29, v29 = IntKind.i64.wrap (v27.fst + v4) -> ∀ v30, v30 = IntKind.i64.wrap (v29 + (1 : Int)) -> ((0 : Int) ≤ v27.fst /\ v27.fst ≤ v30 /\ v30 ≤ (9 : Int) /\ v27.fst < (9 : Int)) /\ ∀ v31, v31 = v30 - v27.fst -> ∀ (v32 : Int), v32 = (9 : Int) - v27.fst -> ((0 : Int) ≤ (0 : Int) /\ (0 : Int) ≤ v4 /\ v4 ≤ (9 : Int) /\ (0 : Int) < (9 : Int)) /\ ∀ v33, v33 = v4 - (0 : Int) -> ∀ (v34 : Int), v34 = (9 : Int) -> (0 : Int) ≤ v33 /\ ((0 : Int) ≤ v27.fst /\ (0 : Int) ≤ v33 /\ v33 < v31) /\ ∀ v35, v35 = v27.fst + v33 -> ((0 : Int) ≤ v35 /\ v35 < (9 : Int)) /\ ∀ v36, v36 = v27.snd.fst v35 -> ∀ v37, v37 = IntKind.i64.wrap (v33 - (1 : Int)) -> ((0 : Int) ≤ (0 : Int) /\ (0 : Int) ≤ v37 /\ v37 < v33) /\ ∀ (v38 : Int), v38 = (0 : Int) + v37 -> ((0 : Int) ≤ v38 /\ v38 < (9 : Int)) /\ ∀ v39, v39 = v27.snd.snd.snd v38 -> ∀ v40, v40 = decide (v36 < v39) -> ((v40 = true -> ((0 : Int) ≤ v27.fst /\ (0 : Int) ≤ v33 /\ v33 < v31) /\ ∀ v41, v41 = v27.fst + v33 -> ((0 : Int) ≤ v41 /\ v41 < (9 : Int)) /\ ∀ v42, v42 = v27.snd.fst v41 -> ∀ v43, v43 = IntKind.i64.wrap (v33 - (1 : Int)) -> ((0 : Int) ≤ v27.fst /\ (0 : Int) ≤ v43 /\ v43 < v31) /\ ∀ v44, v44 = v27.fst + v43 -> ((0 : Int) ≤ v44 /\ v44 < (9 : Int)) /\ ∀ v45, v45 = v27.snd.fst v44 -> ∀ v46, v46 = IntKind.i64.wrap (v33 - (1 : Int)) -> ((0 : Int) ≤ (0 : Int) /\ (0 : Int) ≤ v46 /\ v46 < v33) /\ ∀ (v47 : Int), v47 = (0 : Int) + v46 -> ((0 : Int) ≤ v47 /\ v47 < (9 : Int)) /\ ∀ v48, v48 = v27.snd.snd.snd v47 -> (U64 v42 /\ U64 v45 /\ U64 v48 /\ v42 < v48) /\ ∀ v49, v49 = (v42 * (18446744073709551616 : Int) + v45) / v48 -> ∀ v50, v50 = (v42 * (18446744073709551616 : Int) + v45) % v48 -> ∃ (x51 : Int), x51 = qestF v36 (v27.snd.fst (v27.1 + (v33 - (1 : Int)))) v39 /\ ((EDiv v27.fst /\ EDiv v31 /\ EDiv v32) /\ (GDiv3 v33 v34 0) /\ EDiv 0 /\ EDiv v33 /\ v49 = x51 /\ True) /\ (EDiv 9 /\ (∀ (v52 : Int), (0 : Int) ≤ v52 -> v52 < (9 : Int) -> v27.snd.snd.snd v52 = v27.snd.snd.snd v52) /\ True) /\ (EDiv 9 /\ (∀ (v53 : Int), (0 : Int) ≤ v53 -> v53 < (9 : Int) -> v27.snd.fst v53 = v27.snd.fst v53) /\ True) /\ True) /\ (v40 = false -> ∃ (x54 : Int), x54 = qestF v36 (v27.snd.fst (v27.1 + (v33 - (1 : Int)))) v39 /\ ((EDiv v27.fst /\ EDiv v31 /\ EDiv v32) /\ (GDiv3 v33 v34 0) /\ EDiv 0 /\ EDiv v33 /\ (18446744073709551615 : Int) = x54 /\ True) /\ (EDiv 9 /\ (∀ (v55 : Int), (0 : Int) ≤ v55 -> v55 < (9 : Int) -> v27.snd.snd.snd v55 = v27.snd.snd.snd v55) /\ True) /\ (EDiv 9 /\ (∀ (v56 : Int), (0 : Int) ≤ v56 -> v56 < (9 : Int) -> v27.snd.fst v56 = v27.snd.fst v56) /\ True) /\ True)) /\ ∀ v57, v57 = qestF v36 (v27.snd.fst (v27.1 + (v33 - (1 : Int)))) v39 -> (0 : Int) ≤ v33 /\ (∃ (x58 : Int × Int × Int × (Int -> Int)), takeR v27.snd.fst v27.snd.snd.snd v27.1 v33 v57 x58.fst x58.snd.fst x58.snd.snd.fst x58.snd.snd.snd /\ ((EDiv v27.fst /\ EDiv v31 /\ EDiv v32) /\ (GDiv3 v33 v34 0) /\ EDiv v57 /\ (0 : Int) = x58.snd.fst /\ (0 : Int) = x58.snd.snd.fst /\ (GDiv3 v33 v34 0) /\ EDiv v33 /\ (0 : Int) = x58.fst /\ True) /\ (EDiv 9 /\ (∀ (v59 : Int), (0 : Int) ≤ v59 -> v59 < (9 : Int) -> v27.snd.snd.snd v59 = v27.snd.snd.snd v59) /\ True) /\ (EDiv 9 /\ (∀ (v60 : Int), (0 : Int) ≤ v60 -> v60 < (9 : Int) -> v27.snd.fst v60 = x58.snd.snd.snd v60) /\ True) /\ True) /\ ∀ (v61 : Int × Int × Int × (Int -> Int)), takeR v27.snd.fst v27.snd.snd.snd v27.1 v33 v57 v61.fst v61.snd.fst v61.snd.snd.fst v61.snd.snd.snd -> ∀ v62, v62 = decide (v61.fst < v33) -> (v62 = true -> ((0 : Int) ≤ (0 : Int) /\ (0 : Int) ≤ v61.fst /\ v61.fst < v33) /\ ∀ (v63 : Int), v63 = (0 : Int) + v61.fst -> ((0 : Int) ≤ v63 /\ v63 < (9 : Int)) /\ ∀ v64, v64 = v27.snd.snd.snd v63 -> (U64 v57 /\ U64 v64) /\ ∀ v65, v65 = v57 * v64 / (18446744073709551616 : Int) -> ∀ v66, v66 = v57 * v64 % (18446744073709551616 : Int) -> (U64 v66 /\ U64 v61.snd.fst /\ (0 : Int) ≤ (0 : Int) /\ (0 : Int) ≤ (1 : Int)) /\ ∀ v67, v67 = s64 v66 v61.snd.fst 0 -> ∀ v68, v68 = c64 v66 v61.snd.fst 0 -> ∀ v69, v69 = IntKind.u64.wrap (v65 + v68) -> ((0 : Int) ≤ v27.fst /\ (0 : Int) ≤ v61.fst /\ v61.fst < v31) /\ ∀ v70, v70 = v27.fst + v61.fst -> ((0 : Int) ≤ v70 /\ v70 < (9 : Int)) /\ ∀ v71, v71 = v61.snd.snd.snd v70 -> (U64 v71 /\ U64 v67 /\ (0 : Int) ≤ v61.snd.snd.fst /\ v61.snd.snd.fst ≤ (1 : Int)) /\ ∀ v72, v72 = d64 v71 v67 v61.snd.snd.fst -> ∀ v73, v73 = b64 v71 v67 v61.snd.snd.fst -> ((0 : Int) ≤ v27.fst /\ (0 : Int) ≤ v61.fst /\ v61.fst < v31) /\ ∀ v74, v74 = v27.fst + v61.fst -> ((0 : Int) ≤ v74 /\ v74 + (1 : Int) ≤ (9 : Int)) /\ ∀ (v75 : Int -> Int), v75 = updF v61.snd.snd.snd v74 v72 -> ∀ v76, v76 = IntKind.i64.wrap (v61.fst + (1 : Int)) -> ∃ (x77 : Int × Int × Int × (Int -> Int)), takeR v27.snd.fst v27.snd.snd.snd v27.1 v33 v57 x77.fst x77.snd.fst x77.snd.snd.fst x77.snd.snd.snd /\ (((EDiv v27.fst /\ EDiv v31 /\ EDiv v32) /\ (GDiv3 v33 v34 0) /\ EDiv v57 /\ v69 = x77.snd.fst /\ v73 = x77.snd.snd.fst /\ (GDiv3 v33 v34 0) /\ EDiv v33 /\ v76 = x77.fst /\ True) /\ (EDiv 9 /\ (∀ (v78 : Int), (0 : Int) ≤ v78 -> v78 < (9 : Int) -> v27.snd.snd.snd v78 = v27.snd.snd.snd v78) /\ True) /\ (EDiv 9 /\ (∀ (v79 : Int), (0 : Int) ≤ v79 -> v79 < (9 : Int) -> v75 v79 = x77.snd.snd.snd v79) /\ True) /\ True) /\ (v33 - x77.fst).toNat < (v33 - v61.fst).toNat) /\ (v62 = false -> (0 : Int) ≤ v33 /\ (0 : Int) ≤ v33 /\ ((0 : Int) ≤ v27.fst /\ (0 : Int) ≤ v33 /\ v33 < v31) /\ ∀ v80, v80 = v27.fst + v33 -> ((0 : Int) ≤ v80 /\ v80 < (9 : Int)) /\ ∀ v81, v81 = v61.snd.snd.snd v80 -> (U64 v81 /\ U64 v61.snd.fst /\ (0 : Int) ≤ v61.snd.snd.fst /\ v61.snd.snd.fst ≤ (1 : Int)) /\ ∀ v82, v82 = d64 v81 v61.snd.fst v61.snd.snd.fst -> ∀ v83, v83 = b64 v81 v61.snd.fst v61.snd.snd.fst -> ((0 : Int) ≤ v27.fst /\ (0 : Int) ≤ v33 /\ v33 < v31) /\ ∀ v84, v84 = v27.fst + v33 -> ((0 : Int) ≤ v84 /\ v84 + (1 : Int) ≤ (9 : Int)) /\ ∀ (v85 : Int -> Int), v85 = updF v61.snd.snd.snd v84 v82 -> (∃ (x86 : Int × Int × (Int -> Int)), partR v85 v27.snd.snd.snd v27.1 v33 v57 v83 x86.fst x86.snd.fst x86.snd.snd /\ ((EDiv v27.fst /\ EDiv v31 /\ EDiv v32) /\ (GDiv3 v33 v34 0) /\ EDiv 0 /\ EDiv v33 /\ v57 = x86.fst /\ v83 = x86.snd.fst /\ True) /\ (EDiv 9 /\ (∀ (v87 : Int), (0 : Int) ≤ v87 -> v87 < (9 : Int) -> v27.snd.snd.snd v87 = v27.snd.snd.snd v87) /\ True) /\ (EDiv 9 /\ (∀ (v88 : Int), (0 : Int) ≤ v88 -> v88 < (9 : Int) -> v85 v88 = x86.snd.snd v88) /\ True) /\ True) /\ ∀ (v89 : Int × Int × (Int -> Int)), partR v85 v27.snd.snd.snd v27.1 v33 v57 v83 v89.fst v89.snd.fst v89.snd.snd -> ∀ v90, v90 = (v89.snd.fst == (1 : Int)) -> (v90 = true -> (0 : Int) ≤ v33 /\ (∃ (x91 : Int × Int × (Int -> Int)), giveR v89.snd.snd v27.snd.snd.snd v27.1 v33 x91.fst x91.snd.fst x91.snd.snd /\ ((EDiv v27.fst /\ EDiv v31 /\ EDiv v32) /\ (GDiv3 v33 v34 0) /\ (0 : Int) = x91.snd.fst /\ (GDiv3 v33 v34 0) /\ EDiv v33 /\ (0 : Int) = x91.fst /\ True) /\ (EDiv 9 /\ (∀ (v92 : Int), (0 : Int) ≤ v92 -> v92 < (9 : Int) -> v27.snd.snd.snd v92 = v27.snd.snd.snd v92) /\ True) /\ (EDiv 9 /\ (∀ (v93 : Int), (0 : Int) ≤ v93 -> v93 < (9 : Int) -> v89.snd.snd v93 = x91.snd.snd v93) /\ True) /\ True) /\ ∀ (v94 : Int × Int × (Int -> Int)), giveR v89.snd.snd v27.snd.snd.snd v27.1 v33 v94.fst v94.snd.fst v94.snd.snd -> ∀ v95, v95 = decide (v94.fst < v33) -> (v95 = true -> ((0 : Int) ≤ (0 : Int) /\ (0 : Int) ≤ v94.fst /\ v94.fst < v33) /\ ∀ (v96 : Int), v96 = (0 : Int) + v94.fst -> ((0 : Int) ≤ v96 /\ v96 < (9 : Int)) /\ ∀ v97, v97 = v27.snd.snd.snd v96 -> ((0 : Int) ≤ v27.fst /\ (0 : Int) ≤ v94.fst /\ v94.fst < v31) /\ ∀ v98, v98 = v27.fst + v94.fst -> ((0 : Int) ≤ v98 /\ v98 < (9 : Int)) /\ ∀ v99, v99 = v94.snd.snd v98 -> (U64 v99 /\ U64 v97 /\ (0 : Int) ≤ v94.snd.fst /\ v94.snd.fst ≤ (1 : Int)) /\ ∀ v100, v100 = s64 v99 v97 v94.snd.fst -> ∀ v101, v101 = c64 v99 v97 v94.snd.fst -> ((0 : Int) ≤ v27.fst /\ (0 : Int) ≤ v94.fst /\ v94.fst < v31) /\ ∀ v102, v102 = v27.fst + v94.fst -> ((0 : Int) ≤ v102 /\ v102 + (1 : Int) ≤ (9 : Int)) /\ ∀ (v103 : Int -> Int), v103 = updF v94.snd.snd v102 v100 -> ∀ v104, v104 = IntKind.i64.wrap (v94.fst + (1 : Int)) -> ∃ (x105 : Int × Int × (Int -> Int)), giveR v89.snd.snd v27.snd.snd.snd v27.1 v33 x105.fst x105.snd.fst x105.snd.snd /\ (((EDiv v27.fst /\ EDiv v31 /\ EDiv v32) /\ (GDiv3 v33 v34 0) /\ v101 = x105.snd.fst /\ (GDiv3 v33 v34 0) /\ EDiv v33 /\ v104 = x105.fst /\ True) /\ (EDiv 9 /\ (∀ (v106 : Int), (0 : Int) ≤ v106 -> v106 < (9 : Int) -> v27.snd.snd.snd v106 = v27.snd.snd.snd v106) /\ True) /\ (EDiv 9 /\ (∀ (v107 : Int), (0 : Int) ≤ v107 -> v107 < (9 : Int) -> v103 v107 = x105.snd.snd v107) /\ True) /\ True) /\ (v33 - x105.fst).toNat < (v33 - v94.fst).toNat) /\ (v95 = false -> (0 : Int) ≤ v33 /\ (0 : Int) ≤ v33 /\ ((0 : Int) ≤ v27.fst /\ (0 : Int) ≤ v33 /\ v33 < v31) /\ ∀ v108, v108 = v27.fst + v33 -> ((0 : Int) ≤ v108 /\ v108 < (9 : Int)) /\ ∀ v109, v109 = v94.snd.snd v108 -> (U64 v109 /\ U64 0 /\ (0 : Int) ≤ v94.snd.fst /\ v94.snd.fst ≤ (1 : Int)) /\ ∀ v110, v110 = s64 v109 0 v94.snd.fst -> ∀ v111, v111 = c64 v109 0 v94.snd.fst -> ((0 : Int) ≤ v27.fst /\ (0 : Int) ≤ v33 /\ v33 < v31) /\ ∀ v112, v112 = v27.fst + v33 -> ((0 : Int) ≤ v112 /\ v112 + (1 : Int) ≤ (9 : Int)) /\ ∀ (v113 : Int -> Int), v113 = updF v94.snd.snd v112 v110 -> ∀ v114, v114 = IntKind.u64.wrap (v89.snd.fst - v111) -> ∀ v115, v115 = IntKind.u64.wrap (v89.fst - (1 : Int)) -> ∃ (x116 : Int × Int × (Int -> Int)), partR v85 v27.snd.snd.snd v27.1 v33 v57 v83 x116.fst x116.snd.fst x116.snd.snd /\ (((EDiv v27.fst /\ EDiv v31 /\ EDiv v32) /\ (GDiv3 v33 v34 0) /\ EDiv 0 /\ EDiv v33 /\ v115 = x116.fst /\ v114 = x116.snd.fst /\ True) /\ (EDiv 9 /\ (∀ (v117 : Int), (0 : Int) ≤ v117 -> v117 < (9 : Int) -> v27.snd.snd.snd v117 = v27.snd.snd.snd v117) /\ True) /\ (EDiv 9 /\ (∀ (v118 : Int), (0 : Int) ≤ v118 -> v118 < (9 : Int) -> v113 v118 = x116.snd.snd v118) /\ True) /\ True) /\ partM v27.1 v33 x116.snd.fst x116.snd.snd < partM v27.1 v33 v89.snd.fst v89.snd.snd)) /\ (v90 = false -> ((0 : Int) ≤ v27.fst /\ v27.fst < (8 : Int)) /\ ∀ (v119 : Int), v119 = (0 : Int) + v27.fst * (1 : Int) -> ((0 : Int) ≤ v119 /\ v119 + (1 : Int) ≤ (8 : Int)) /\ ∀ (v120 : Int -> Int), v120 = updF v27.snd.snd.fst v119 v89.fst -> ∀ v121, v121 = IntKind.i64.wrap (v27.fst - (1 : Int)) -> ∃ (x122 : Int × (Int -> Int) × (Int -> Int) × (Int -> Int)), ((x122.snd.snd.snd (0 : Int) = v7 /\ x122.snd.snd.snd (1 : Int) = v8 /\ x122.snd.snd.snd (2 : Int) = v9 /\ x122.snd.snd.snd (3 : Int) = v10) /\ divR v4 (val9w v16 v17 v18 v19 v20 v21 v22 v23 v24) x122.fst x122.snd.fst x122.snd.snd.fst x122.snd.snd.snd) /\ ((True /\ True /\ True /\ True /\ True /\ True /\ EDiv 0 /\ EDiv v1 /\ EDiv v4 /\ EDiv v6 /\ True /\ True /\ True /\ v121 = x122.fst /\ True) /\ (GDiv2 lo0 lo1 lo2 lo3) /\ (GDiv2 hi0 hi1 hi2 hi3) /\ (GDiv2 m0 m1 m2 m3) /\ (GDiv1 0) /\ (GDiv1 0) /\ (GDiv1 0) /\ (EDiv 9 /\ (∀ (v123 : Int), (0 : Int) ≤ v123 -> v123 < (9 : Int) -> v27.snd.snd.snd v123 = x122.snd.snd.snd v123) /\ True) /\ (EDiv 9 /\ (∀ (v124 : Int), (0 : Int) ≤ v124 -> v124 < (9 : Int) -> v89.snd.snd v124 = x122.snd.fst v124) /\ True) /\ (EDiv 8 /\ (∀ (v125 : Int), (0 : Int) ≤ v125 -> v125 < (8 : Int) -> v120 v125 = x122.snd.snd.fst v125) /\ True) /\ True) /\ (x122.fst + (1 : Int)).toNat < (v27.fst + (1 : Int)).toNat))) /\ (v28 = false -> (∃ (x126 : Int × (Int -> Int)), remR v27.snd.fst v4 x126.fst v6 x126.snd /\ (True /\ True /\ True /\ True /\ True /\ True /\ EDiv 0 /\ EDiv v4 /\ EDiv v6 /\ True /\ True /\ True /\ EDiv v4 /\ (0 : Int) = x126.fst /\ True) /\ (GDiv2 lo0 lo1 lo2 lo3) /\ (GDiv2 hi0 hi1 hi2 hi3) /\ (GDiv2 m0 m1 m2 m3) /\ (GDiv1 0) /\ (GDiv1 0) /\ (GDiv1 0) /\ (EDiv 9 /\ (∀ (v127 : Int), (0 : Int) ≤ v127 -> v127 < (9 : Int) -> v27.snd.snd.snd v127 = v27.snd.snd.snd v127) /\ True) /\ (EDiv 9 /\ (∀ (v128 : Int), (0 : Int) ≤ v128 -> v128 < (9 : Int) -> v27.snd.fst v128 = v27.snd.fst v128) /\ True) /\ (EDiv 8 /\ (∀ (v129 : Int), (0 : Int) ≤ v129 -> v129 < (8 : Int) -> v27.snd.snd.fst v129 = v27.snd.snd.fst v129) /\ True) /\ ((4 : Int) * (1 : Int) = (4 : Int) /\ (0 : Int) = x126.snd (0 : Int) /\ (0 : Int) = x126.snd (1 : Int) /\ (0 : Int) = x126.snd (2 : Int) /\ (0 : Int) = x126.snd (3 : Int) /\ True) /\ True) /\ ∀ (v130 : Int × (Int -> Int)), remR v27.snd.fst v4 v130.fst v6 v130.snd -> ∀ v131, v131 = decide (v130.fst < v4) -> (v131 = true -> ((0 : Int) ≤ v130.fst /\ v130.fst < (9 : Int)) /\ ∀ (v132 : Int), v132 = (0 : Int) + v130.fst * (1 : Int) -> ((0 : Int) ≤ v132 /\ v132 < (9 : Int)) /\ ∀ v133, v133 = v27.snd.fst v132 -> decide ((0 : Int) ≤ v6) = true /\ ∀ v134, v134 = shrI IntKind.u64 v133 v6 -> ∀ v135, v135 = IntKind.i64.wrap (v130.fst + (1 : Int)) -> ((0 : Int) ≤ v135 /\ v135 < (9 : Int)) /\ ∀ (v136 : Int), v136 = (0 : Int) + v135 * (1 : Int) -> ((0 : Int) ≤ v136 /\ v136 < (9 : Int)) /\ ∀ v137, v137 = v27.snd.fst v136 -> ∀ v138, v138 = shlI IntKind.u64 v137 (1 : Int) -> ∀ v139, v139 = IntKind.i64.wrap ((63 : Int) - v6) -> decide ((0 : Int) ≤ v139) = true /\ ∀ v140, v140 = shlI IntKind.u64 v138 v139 -> ∀ v141, v141 = bitI BinOp.or IntKind.u64 v134 v140 -> ((0 : Int) ≤ v130.fst /\ v130.fst < (4 : Int)) /\ ∀ (v142 : Int), v142 = (0 : Int) + v130.fst * (1 : Int) -> ((0 : Int) ≤ v142 /\ v142 + (1 : Int) ≤ (4 : Int)) /\ ∀ (v143 : Int -> Int), v143 = updF v130.snd v142 v141 -> ∀ v144, v144 = IntKind.i64.wrap (v130.fst + (1 : Int)) -> ∃ (x145 : Int × (Int -> Int)), remR v27.snd.fst v4 x145.fst v6 x145.snd /\ ((True /\ True /\ True /\ True /\ True /\ True /\ EDiv 0 /\ EDiv v4 /\ EDiv v6 /\ True /\ True /\ True /\ EDiv v4 /\ v144 = x145.fst /\ True) /\ (GDiv2 lo0 lo1 lo2 lo3) /\ (GDiv2 hi0 hi1 hi2 hi3) /\ (GDiv2 m0 m1 m2 m3) /\ (GDiv1 0) /\ (GDiv1 0) /\ (GDiv1 0) /\ (EDiv 9 /\ (∀ (v146 : Int), (0 : Int) ≤ v146 -> v146 < (9 : Int) -> v27.snd.snd.snd v146 = v27.snd.snd.snd v146) /\ True) /\ (EDiv 9 /\ (∀ (v147 : Int), (0 : Int) ≤ v147 -> v147 < (9 : Int) -> v27.snd.fst v147 = v27.snd.fst v147) /\ True) /\ (EDiv 8 /\ (∀ (v148 : Int), (0 : Int) ≤ v148 -> v148 < (8 : Int) -> v27.snd.snd.fst v148 = v27.snd.snd.fst v148) /\ True) /\ (EDiv 4 /\ (∀ (v149 : Int), (0 : Int) ≤ v149 -> v149 < (4 : Int) -> v143 v149 = x145.snd v149) /\ True) /\ True) /\ (v4 - x145.fst).toNat < (v4 - v130.fst).toNat) /\ (v131 = false -> (8 : Int) ≤ (8 : Int) /\ ∀ v150, v150 = v27.snd.snd.fst (0 : Int) -> ∀ v151, v151 = v27.snd.snd.fst (1 : Int) -> ∀ v152, v152 = v27.snd.snd.fst (2 : Int) -> ∀ v153, v153 = v27.snd.snd.fst (3 : Int) -> ∀ v154, v154 = v27.snd.snd.fst (4 : Int) -> ∀ v155, v155 = v27.snd.snd.fst (5 : Int) -> ∀ v156, v156 = v27.snd.snd.fst (6 : Int) -> ∀ v157, v157 = v27.snd.snd.fst (7 : Int) -> (4 : Int) ≤ (4 : Int) /\ ∀ v158, v158 = v130.snd (0 : Int) -> ∀ v159, v159 = v130.snd (1 : Int) -> ∀ v160, v160 = v130.snd (2 : Int) -> ∀ v161, v161 = v130.snd (3 : Int) -> ((IntKind.u64 = IntKind.u64 /\ v150 = limb (qF (val4 lo0 lo1 lo2 lo3) (val4 hi0 hi1 hi2 hi3) (val4 m0 m1 m2 m3)) 0) /\ (IntKind.u64 = IntKind.u64 /\ v151 = limb (qF (val4 lo0 lo1 lo2 lo3) (val4 hi0 hi1 hi2 hi3) (val4 m0 m1 m2 m3)) 1) /\ (IntKind.u64 = IntKind.u64 /\ v152 = limb (qF (val4 lo0 lo1 lo2 lo3) (val4 hi0 hi1 hi2 hi3) (val4 m0 m1 m2 m3)) 2) /\ (IntKind.u64 = IntKind.u64 /\ v153 = limb (qF (val4 lo0 lo1 lo2 lo3) (val4 hi0 hi1 hi2 hi3) (val4 m0 m1 m2 m3)) 3) /\ True) /\ ((IntKind.u64 = IntKind.u64 /\ v154 = limb (qF (val4 lo0 lo1 lo2 lo3) (val4 hi0 hi1 hi2 hi3) (val4 m0 m1 m2 m3) / (115792089237316195423570985008687907853269984665640564039457584007913129639936 : Int)) 0) /\ (IntKind.u64 = IntKind.u64 /\ v155 = limb (qF (val4 lo0 lo1 lo2 lo3) (val4 hi0 hi1 hi2 hi3) (val4 m0 m1 m2 m3) / (115792089237316195423570985008687907853269984665640564039457584007913129639936 : Int)) 1) /\ (IntKind.u64 = IntKind.u64 /\ v156 = limb (qF (val4 lo0 lo1 lo2 lo3) (val4 hi0 hi1 hi2 hi3) (val4 m0 m1 m2 m3) / (115792089237316195423570985008687907853269984665640564039457584007913129639936 : Int)) 2) /\ (IntKind.u64 = IntKind.u64 /\ v157 = limb (qF (val4 lo0 lo1 lo2 lo3) (val4 hi0 hi1 hi2 hi3) (val4 m0 m1 m2 m3) / (115792089237316195423570985008687907853269984665640564039457584007913129639936 : Int)) 3) /\ True) /\ ((IntKind.u64 = IntKind.u64 /\ v158 = limb (rF (val4 lo0 lo1 lo2 lo3) (val4 hi0 hi1 hi2 hi3) (val4 m0 m1 m2 m3)) 0) /\ (IntKind.u64 = IntKind.u64 /\ v159 = limb (rF (val4 lo0 lo1 lo2 lo3) (val4 hi0 hi1 hi2 hi3) (val4 m0 m1 m2 m3)) 1) /\ (IntKind.u64 = IntKind.u64 /\ v160 = limb (rF (val4 lo0 lo1 lo2 lo3) (val4 hi0 hi1 hi2 hi3) (val4 m0 m1 m2 m3)) 2) /\ (IntKind.u64 = IntKind.u64 /\ v161 = limb (rF (val4 lo0 lo1 lo2 lo3) (val4 hi0 hi1 hi2 hi3) (val4 m0 m1 m2 m3)) 3) /\ True) /\ (IntKind.i64 = IntKind.i64 /\ (0 : Int) = if val4 m0 m1 m2 m3 = (0 : Int) then (13 : Int) else (0 : Int)) /\ True)))
theorem tieDiv (w0 : World) (lo0 : Int) (lo1 : Int) (lo2 : Int) (lo3 : Int) (hi0 : Int) (hi1 : Int) (hi2 : Int) (hi3 : Int) (m0 : Int) (m1 : Int) (m2 : Int) (m3 : Int) : VCDiv lo0 lo1 lo2 lo3 hi0 hi1 hi2 hi3 m0 m1 m2 m3 = ((recN (GL Tryd.prog dv6Spec dv6AnnSpec dv6CutSpec w0) 40).call 8 [.agg [.int .u64 (.sym lo0), .int .u64 (.sym lo1), .int .u64 (.sym lo2), .int .u64 (.sym lo3)], .agg [.int .u64 (.sym hi0), .int .u64 (.sym hi1), .int .u64 (.sym hi2), .int .u64 (.sym hi3)], .agg [.int .u64 (.sym m0), .int .u64 (.sym m1), .int .u64 (.sym m2), .int .u64 (.sym m3)]] [] (fun r__ _ => eqV r__ (.tup [.agg [.int .u64 (.sym (limb (qF (val4 lo0 lo1 lo2 lo3) (val4 hi0 hi1 hi2 hi3) (val4 m0 m1 m2 m3)) 0)), .int .u64 (.sym (limb (qF (val4 lo0 lo1 lo2 lo3) (val4 hi0 hi1 hi2 hi3) (val4 m0 m1 m2 m3)) 1)), .int .u64 (.sym (limb (qF (val4 lo0 lo1 lo2 lo3) (val4 hi0 hi1 hi2 hi3) (val4 m0 m1 m2 m3)) 2)), .int .u64 (.sym (limb (qF (val4 lo0 lo1 lo2 lo3) (val4 hi0 hi1 hi2 hi3) (val4 m0 m1 m2 m3)) 3))], .agg [.int .u64 (.sym (limb (qF (val4 lo0 lo1 lo2 lo3) (val4 hi0 hi1 hi2 hi3) (val4 m0 m1 m2 m3) / 115792089237316195423570985008687907853269984665640564039457584007913129639936) 0)), .int .u64 (.sym (limb (qF (val4 lo0 lo1 lo2 lo3) (val4 hi0 hi1 hi2 hi3) (val4 m0 m1 m2 m3) / 115792089237316195423570985008687907853269984665640564039457584007913129639936) 1)), .int .u64 (.sym (limb (qF (val4 lo0 lo1 lo2 lo3) (val4 hi0 hi1 hi2 hi3) (val4 m0 m1 m2 m3) / 115792089237316195423570985008687907853269984665640564039457584007913129639936) 2)), .int .u64 (.sym (limb (qF (val4 lo0 lo1 lo2 lo3) (val4 hi0 hi1 hi2 hi3) (val4 m0 m1 m2 m3) / 115792089237316195423570985008687907853269984665640564039457584007913129639936) 3))], .agg [.int .u64 (.sym (limb (rF (val4 lo0 lo1 lo2 lo3) (val4 hi0 hi1 hi2 hi3) (val4 m0 m1 m2 m3)) 0)), .int .u64 (.sym (limb (rF (val4 lo0 lo1 lo2 lo3) (val4 hi0 hi1 hi2 hi3) (val4 m0 m1 m2 m3)) 1)), .int .u64 (.sym (limb (rF (val4 lo0 lo1 lo2 lo3) (val4 hi0 hi1 hi2 hi3) (val4 m0 m1 m2 m3)) 2)), .int .u64 (.sym (limb (rF (val4 lo0 lo1 lo2 lo3) (val4 hi0 hi1 hi2 hi3) (val4 m0 m1 m2 m3)) 3))], .int .i64 (.sym ((if (val4 m0 m1 m2 m3) = 0 then 13 else 0)))]))) := by kernel_rfl
theorem div_okP (pureDiv : ∀ (lo0 : Int) (lo1 : Int) (lo2 : Int) (lo3 : Int) (hi0 : Int) (hi1 : Int) (hi2 : Int) (hi3 : Int) (m0 : Int) (m1 : Int) (m2 : Int) (m3 : Int), (U64 lo0) ∧ (U64 lo1) ∧ (U64 lo2) ∧ (U64 lo3) ∧ (U64 hi0) ∧ (U64 hi1) ∧ (U64 hi2) ∧ (U64 hi3) ∧ (U64 m0) ∧ (U64 m1) ∧ (U64 m2) ∧ (U64 m3) → VCDiv lo0 lo1 lo2 lo3 hi0 hi1 hi2 hi3 m0 m1 m2 m3) : SpecOk Tryd.prog 8 divSpec := by
  intro args k h
  unfold divSpec at h
  split at h
  · rename_i lo0 lo1 lo2 lo3 hi0 hi1 hi2 hi3 m0 m1 m2 m3
    obtain ⟨hr, h⟩ := h
    exact ⟨_, h _ rfl _ rfl _ rfl _ rfl, PureOk.of_tie (GL Tryd.prog dv6Spec dv6AnnSpec dv6CutSpec) (fun w__ => gokL w__ namesOk_ mixed_ dv6_ok) (fun _ => rfl) (fun _ => rfl) (args' := [.agg [.int .u64 (.sym lo0.val), .int .u64 (.sym lo1.val), .int .u64 (.sym lo2.val), .int .u64 (.sym lo3.val)], .agg [.int .u64 (.sym hi0.val), .int .u64 (.sym hi1.val), .int .u64 (.sym hi2.val), .int .u64 (.sym hi3.val)], .agg [.int .u64 (.sym m0.val), .int .u64 (.sym m1.val), .int .u64 (.sym m2.val), .int .u64 (.sym m3.val)]]) ⟨⟨⟨rfl, rfl⟩, ⟨rfl, rfl⟩, ⟨rfl, rfl⟩, ⟨rfl, rfl⟩, trivial⟩, ⟨⟨rfl, rfl⟩, ⟨rfl, rfl⟩, ⟨rfl, rfl⟩, ⟨rfl, rfl⟩, trivial⟩, ⟨⟨rfl, rfl⟩, ⟨rfl, rfl⟩, ⟨rfl, rfl⟩, ⟨rfl, rfl⟩, trivial⟩, trivial⟩ 40 (fun w__ => VCDiv lo0.val lo1.val lo2.val lo3.val hi0.val hi1.val hi2.val hi3.val m0.val m1.val m2.val m3.val) (fun w__ => tieDiv w__ lo0.val lo1.val lo2.val lo3.val hi0.val hi1.val hi2.val hi3.val m0.val m1.val m2.val m3.val) (fun w__ => pureDiv lo0.val lo1.val lo2.val lo3.val hi0.val hi1.val hi2.val hi3.val m0.val m1.val m2.val m3.val hr)⟩
  · exact h.elim

end Go.Proofs.YtaaobpalpcdlbaaDoor.Bits
namespace Go.Proofs.YtaaobpalpcdlbaaDoor.Bits
open Go Go.Sx Go.RowKit
set_option linter.unusedVariables false
set_option maxRecDepth 100000
def rwf (a b : Int) (s : Nat) : Int := a / 2 ^ s + b % 2 ^ s * 2 ^ (64 - s)
theorem pw_mul {s : Nat} (hs : s ≤ 63) : (2 : Int) ^ s * 2 ^ (64 - s) = 18446744073709551616 := by
  rw [← Int.pow_add, show s + (64 - s) = 64 by omega]; rfl
theorem rwf_in {a b : Int} {s : Nat} (ha : 0 ≤ a ∧ a ≤ 18446744073709551615) (hb : 0 ≤ b ∧ b ≤ 18446744073709551615) (hs : s ≤ 63) :
    (0 ≤ a / 2 ^ s ∧ a / 2 ^ s < 2 ^ (64 - s)) ∧ 0 ≤ b % 2 ^ s ∧ b % 2 ^ s * 2 ^ (64 - s) ≤ 18446744073709551616 - 2 ^ (64 - s) ∧ 0 ≤ b % 2 ^ s * 2 ^ (64 - s) ∧ 0 ≤ rwf a b s ∧ rwf a b s ≤ 18446744073709551615 := by
  have p0 : (0 : Int) < 2 ^ s := Int.pow_pos (by omega)
  have P0 : (0 : Int) < 2 ^ (64 - s) := Int.pow_pos (by omega)
  have e := pw_mul hs
  have a1 : 0 ≤ a / 2 ^ s := Int.ediv_nonneg ha.1 (by omega)
  have a2 : a / 2 ^ s < 2 ^ (64 - s) := Int.ediv_lt_of_lt_mul p0 (by rw [Int.mul_comm, e]; omega)
  have b1 := Int.emod_nonneg b (show (2 : Int) ^ s ≠ 0 by omega)
  have b2 := Int.emod_lt_of_pos b p0
  have b3 := Int.mul_le_mul_of_nonneg_right (show b % 2 ^ s ≤ 2 ^ s - 1 by omega) (show (0 : Int) ≤ 2 ^ (64 - s) by omega)
  rw [Int.sub_mul, e, Int.one_mul] at b3
  have b4 := Int.mul_nonneg b1 (show (0 : Int) ≤ 2 ^ (64 - s) by omega)
  unfold rwf
  exact ⟨⟨a1, a2⟩, b1, b3, b4, by omega, by omega⟩
theorem rStep {a b : Int} {s : Nat} {K : Int → Prop} (ha : 0 ≤ a ∧ a ≤ 18446744073709551615) (hb : 0 ≤ b ∧ b ≤ 18446744073709551615) (hs : s ≤ 63) (h : K (rwf a b s)) :
    decide (0 ≤ (s : Int)) = true ∧ ∀ v1 : Int, v1 = shrI .u64 a (s : Int) → ∀ v2 : Int, v2 = shlI .u64 b 1 → ∀ v3 : Int, v3 = IntKind.i64.wrap (63 - (s : Int)) → decide (0 ≤ v3) = true ∧ ∀ v4 : Int, v4 = shlI .u64 v2 v3 → ∀ v5 : Int, v5 = bitI .or .u64 v1 v4 → K v5 := by
  obtain ⟨⟨a1, a2⟩, b1, b3, b4, r1, r2⟩ := rwf_in ha hb hs
  refine ⟨by simp, fun v1 h1 v2 h2 v3 h3 => ⟨?_, fun v4 h4 v5 h5 => ?_⟩⟩
  · rw [i64_id (by omega) (by omega)] at h3; simp; omega
  rw [i64_id (by omega) (by omega)] at h3
  rw [shr_eq .u64 a s (by simp only [IntKind.bits]; omega)] at h1
  rw [shlN .u64 _ 1 _ 2, w_u64] at h2
  rw [show v3 = ((63 - s : Nat) : Int) by omega, shl_eq .u64 v2 (63 - s) (by simp only [IntKind.bits]; omega), w_u64, h2, Int.mul_emod, Int.emod_emod_of_dvd _ (Int.dvd_refl _), ← Int.mul_emod, Int.mul_assoc, ← Int.pow_succ', show 63 - s + 1 = 64 - s by omega] at h4
  have e4 : v4 = b % 2 ^ s * 2 ^ (64 - s) := by
    rw [h4, ← pw_mul hs, Int.mul_comm b, Int.mul_comm (2 ^ s), Int.mul_emod_mul_of_pos _ _ (Int.pow_pos (by omega)), Int.mul_comm]
  have e5 : v5 = rwf a b s := by
    unfold rwf at r2 ⊢
    rw [h5, h1, e4, or_comm_u64, or_parts_u64 b1 a1 a2 (by omega) (by omega) (by omega)]
    omega
  rw [e5]; exact h
theorem rval {w0 w1 w2 w3 r : Int} {s : Nat} (hs : s ≤ 63) (h : val4 w0 w1 w2 w3 = r * 2 ^ s) :
    val4 (rwf w0 w1 s) (rwf w1 w2 s) (rwf w2 w3 s) (rwf w3 0 s) = r := by
  have p0 : (0 : Int) < 2 ^ s := Int.pow_pos (by omega)
  have e := pw_mul hs
  have d0 := Int.emod_add_mul_ediv w0 (2 ^ s)
  have d1 := Int.emod_add_mul_ediv w1 (2 ^ s)
  have d2 := Int.emod_add_mul_ediv w2 (2 ^ s)
  have d3 := Int.emod_add_mul_ediv w3 (2 ^ s)
  have z0 := Int.emod_nonneg w0 (show (2 : Int) ^ s ≠ 0 by omega)
  have z1 := Int.emod_lt_of_pos w0 p0
  unfold rwf
  generalize w0 / 2 ^ s = a0 at *
  generalize w1 / 2 ^ s = a1 at *
  generalize w2 / 2 ^ s = a2 at *
  generalize w3 / 2 ^ s = a3 at *
  generalize w0 % 2 ^ s = b0 at *
  generalize w1 % 2 ^ s = b1 at *
  generalize w2 % 2 ^ s = b2 at *
  generalize w3 % 2 ^ s = b3 at *
  rw [show (0 : Int) % 2 ^ s = 0 by simp]
  generalize (2 : Int) ^ (64 - s) = P at *
  generalize (2 : Int) ^ s = p at *
  have k : p * val4 (a0 + b1 * P) (a1 + b2 * P) (a2 + b3 * P) (a3 + 0 * P) = val4 w0 w1 w2 w3 - b0 := by
    have t : ∀ x : Int, p * (x * P) = x * 18446744073709551616 := fun x => by rw [← e]; grind
    have t1 := t b1
    have t2 := t b2
    have t3 := t b3
    have x : p * val4 (a0 + b1 * P) (a1 + b2 * P) (a2 + b3 * P) (a3 + 0 * P) = p * a0 + p * (b1 * P) + (p * a1 + p * (b2 * P)) * 18446744073709551616 + (p * a2 + p * (b3 * P)) * 340282366920938463463374607431768211456 + p * a3 * 6277101735386680763835789423207666416102355444464034512896 := by
      unfold val4; grind
    rw [x, t1, t2, t3]
    unfold val4
    omega
  rw [h] at k
  generalize val4 (a0 + b1 * P) (a1 + b2 * P) (a2 + b3 * P) (a3 + 0 * P) = X at *
  have k2 : p * (r - X) = b0 := by rw [Int.mul_sub, k, Int.mul_comm]; omega
  rcases Int.lt_trichotomy (r - X) 0 with c | c | c
  · have := Int.mul_le_mul_of_nonneg_left (show r - X ≤ -1 by omega) (Int.le_of_lt p0)
    omega
  · omega
  · have := Int.mul_le_mul_of_nonneg_left (show 1 ≤ r - X by omega) (Int.le_of_lt p0)
    omega
theorem sval {l0 l1 l2 l3 l4 l5 l6 l7 : Int} {s : Nat} (hs : s ≤ 63) :
    val4 (shw l0 0 s) (shw l1 l0 s) (shw l2 l1 s) (shw l3 l2 s) + val4 (shw l4 l3 s) (shw l5 l4 s) (shw l6 l5 s) (shw l7 l6 s) * 115792089237316195423570985008687907853269984665640564039457584007913129639936
      + shw 0 l7 s * 13407807929942597099574024998205846127479365820592393377723561443721764030073546976801874298166903427690031858186486050853753882811946569946433649006084096 = val8 l0 l1 l2 l3 l4 l5 l6 l7 * 2 ^ s := by
  have e := pw_mul hs
  have p0 : (2 : Int) ^ s ≠ 0 := Int.pow_ne_zero (by omega)
  have d : ∀ l : Int, l * 2 ^ s = l / 2 ^ (64 - s) * 18446744073709551616 + l * 2 ^ s % 18446744073709551616 := fun l => by
    have a := Int.emod_add_mul_ediv (l * 2 ^ s) 18446744073709551616
    have b : l * 2 ^ s / 18446744073709551616 = l / 2 ^ (64 - s) := by rw [← e, Int.mul_comm l, Int.mul_ediv_mul_of_pos _ _ (Int.pow_pos (by omega))]
    rw [b] at a; omega
  have x : val8 l0 l1 l2 l3 l4 l5 l6 l7 * 2 ^ s = val4 (l0 * 2 ^ s) (l1 * 2 ^ s) (l2 * 2 ^ s) (l3 * 2 ^ s) + val4 (l4 * 2 ^ s) (l5 * 2 ^ s) (l6 * 2 ^ s) (l7 * 2 ^ s) * 115792089237316195423570985008687907853269984665640564039457584007913129639936 := by
    unfold val8 val4; grind
  rw [x]
  have d0 := d l0
  have d1 := d l1
  have d2 := d l2
  have d3 := d l3
  have d4 := d l4
  have d5 := d l5
  have d6 := d l6
  have d7 := d l7
  unfold shw
  rw [show (0 : Int) * 2 ^ s % 18446744073709551616 = 0 by simp, show (0 : Int) / 2 ^ (64 - s) = 0 by simp]
  generalize l0 * 2 ^ s = y0 at *
  generalize l1 * 2 ^ s = y1 at *
  generalize l2 * 2 ^ s = y2 at *
  generalize l3 * 2 ^ s = y3 at *
  generalize l4 * 2 ^ s = y4 at *
  generalize l5 * 2 ^ s = y5 at *
  generalize l6 * 2 ^ s = y6 at *
  generalize l7 * 2 ^ s = y7 at *
  unfold val4
  omega
theorem norm {M : Int} (n : Nat) {s : Nat} (h0 : 0 < M) (hl : lenF M = 64 * (n : Int) - (s : Int)) : 2 ^ (64 * n - 1) ≤ M * 2 ^ s ∧ M * 2 ^ s < 2 ^ (64 * n) := by
  obtain ⟨k, ek, k1, k2⟩ := lenF_spec h0
  have e : 64 * n = k + 1 + s := by omega
  have p0 : (0 : Int) < 2 ^ s := Int.pow_pos (by omega)
  rw [show 64 * n - 1 = k + s by omega, e, Int.pow_add, Int.pow_add]
  exact ⟨Int.mul_le_mul_of_nonneg_right k1 (Int.le_of_lt p0), Int.mul_lt_mul_of_pos_right k2 p0⟩
theorem divFin {N M D U Q R : Int} {s : Nat} (hM : 0 < M) (hD : D = M * 2 ^ s) (hU : U = N * 2 ^ s) (h : U = Q * D + R) (h0 : 0 ≤ R) (h1 : R < D) : Q = N / M ∧ R = (N % M) * 2 ^ s := by
  have p0 : (0 : Int) < 2 ^ s := Int.pow_pos (by omega)
  have e : R = (N - Q * M) * 2 ^ s := by
    rw [Int.sub_mul, Int.mul_assoc, ← hD, ← hU, h]; omega
  generalize (2 : Int) ^ s = p at *
  have a : 0 ≤ N - Q * M := by
    rcases Int.lt_or_le (N - Q * M) 0 with c | c
    · have := Int.mul_le_mul_of_nonneg_right (show N - Q * M ≤ -1 by omega) (Int.le_of_lt p0)
      omega
    · exact c
  have b : N - Q * M < M := by
    rcases Int.lt_or_le (N - Q * M) M with c | c
    · exact c
    · have := Int.mul_le_mul_of_nonneg_right c (Int.le_of_lt p0)
      omega
  have q : Q = N / M := quo_eq hM (by omega) (by rw [Int.add_mul]; omega)
  refine ⟨q, ?_⟩
  rw [e]
  congr 1
  have := Int.emod_add_mul_ediv N M
  rw [← q, Int.mul_comm M] at this
  omega
end Go.Proofs.YtaaobpalpcdlbaaDoor.Bits
namespace Go.Proofs.YtaaobpalpcdlbaaDoor.Bits
open Go Go.Sx Go.RowKit
set_option linter.unusedVariables false
set_option maxRecDepth 100000
theorem W1_pos (n : Nat) : 0 < W1 ^ n := Int.pow_pos (by decide)
theorem vN_congr {f g : Int → Int} {o : Int} : ∀ {n : Nat}, (∀ j, o ≤ j → j < o + (n : Int) → f j = g j) → vN f o n = vN g o n
  | 0, _ => rfl
  | n + 1, h => by
    simp only [vN]
    rw [vN_congr (n := n) fun j h1 h2 => h j h1 (by omega), h (o + n) (by omega) (by omega)]
theorem vN_in {f : Int → Int} {o : Int} : ∀ {n : Nat}, (∀ j, o ≤ j → j < o + (n : Int) → 0 ≤ f j ∧ f j ≤ 18446744073709551615) → 0 ≤ vN f o n ∧ vN f o n < W1 ^ n
  | 0, _ => by simp [vN]
  | n + 1, h => by
    obtain ⟨a, b⟩ := vN_in (n := n) fun j h1 h2 => h j h1 (by omega)
    obtain ⟨c, d⟩ := h (o + n) (by omega) (by omega)
    have p := W1_pos n
    simp only [vN]
    rw [Int.pow_succ]
    have e := Int.mul_nonneg c (Int.le_of_lt p)
    have g := Int.mul_le_mul_of_nonneg_right d (Int.le_of_lt p)
    generalize W1 ^ n = w at *
    generalize f (o + n) * w = z at *
    unfold W1
    omega
theorem vN_split (f : Int → Int) (o : Int) (a : Nat) : ∀ b : Nat, vN f o (a + b) = vN f o a + W1 ^ a * vN f (o + a) b
  | 0 => by simp [vN]
  | b + 1 => by
    have ih := vN_split f o a b
    show vN f o (a + b) + f (o + ((a + b : Nat) : Int)) * W1 ^ (a + b) = _
    rw [ih]
    simp only [vN]
    rw [Int.pow_add, show o + ((a + b : Nat) : Int) = o + a + b by omega]
    generalize W1 ^ a = x
    generalize W1 ^ b = y
    generalize vN f o a = z
    generalize vN f (o + a) b = u
    generalize f (o + a + b) = w
    grind
theorem vN_head (f : Int → Int) (o : Int) (n : Nat) : vN f o (n + 1) = f o + W1 * vN f (o + 1) n := by
  rw [Nat.add_comm, vN_split]
  simp [vN, Int.pow_succ]
theorem vN_zero (o : Int) : ∀ n, vN (fun _ => 0) o n = 0
  | 0 => rfl
  | n + 1 => by simp only [vN, vN_zero o n]; simp
theorem vN_top {u d : Int → Int} {o p : Int} {M : Nat} (hu : ∀ j, o ≤ j → j < o + (M : Int) → 0 ≤ u j ∧ u j ≤ 18446744073709551615) (hd : ∀ j, p ≤ j → j < p + (M : Int) → 0 ≤ d j ∧ d j ≤ 18446744073709551615) (h : u (o + M) < d (p + M)) :
    vN u o (M + 1) < vN d p (M + 1) := by
  have a := vN_in hu
  have b := vN_in hd
  simp only [vN]
  have c := Int.mul_le_mul_of_nonneg_right (show u (o + M) ≤ d (p + M) - 1 by omega) (Int.le_of_lt (W1_pos M))
  rw [Int.sub_mul] at c
  omega
theorem upd_out {g : Int → Int} {i j w : Int} (h : j ≠ i) : updF g i w j = g j := by unfold updF; rw [if_neg h]
theorem upd_in (g : Int → Int) (i w : Int) : updF g i w i = w := by unfold updF; rw [if_pos rfl]
theorem upd_W9 {g : Int → Int} {i w n : Int} (h : W9 g n) (hw : 0 ≤ w ∧ w ≤ 18446744073709551615) : W9 (updF g i w) n := fun j a b => by
  unfold updF; split
  · exact hw
  · exact h j a b
theorem takeW {q d u c b vh vl vs vc c' w b' : Int} (hq : 0 ≤ q ∧ q ≤ 18446744073709551615) (hd : 0 ≤ d ∧ d ≤ 18446744073709551615) (hu : 0 ≤ u ∧ u ≤ 18446744073709551615) (hc : 0 ≤ c ∧ c ≤ 18446744073709551615) (hb : 0 ≤ b ∧ b ≤ 1)
    (h1 : vh = q * d / 18446744073709551616) (h2 : vl = q * d % 18446744073709551616) (h3 : vs = s64 vl c 0) (h4 : vc = c64 vl c 0) (h5 : c' = IntKind.u64.wrap (vh + vc)) (hw : w = d64 u vs b) (hb' : b' = b64 u vs b) :
    w - b' * 18446744073709551616 - c' * 18446744073709551616 = u - b - q * d - c ∧ (0 ≤ c' ∧ c' ≤ 18446744073709551615) ∧ (0 ≤ w ∧ w ≤ 18446744073709551615) ∧ 0 ≤ b' ∧ b' ≤ 1 := by
  have vs0 : 0 ≤ vs ∧ vs ≤ 18446744073709551615 := by unfold s64 at h3; omega
  obtain ⟨k1, k2, k3, k4, k5⟩ := subW hu vs0 hb.1 hb.2 hw hb'
  obtain ⟨p0, p1⟩ := mul_in hq.1 hq.2 hd.1 hd.2
  refine ⟨?_, ?_, ⟨k2, k3⟩, k4, k5⟩
  all_goals
    generalize q * d = P at *
    rw [w_u64] at h5
    unfold s64 at h3
    unfold c64 at h4
    omega
theorem take_next {f d g : Int → Int} {o q c b w c' b' : Int} {K : Nat} (e : vN g o K = vN f o K - q * vN d 0 K + (c + b) * W1 ^ K) (hu : g (o + K) = f (o + K)) (hw : w - b' * 18446744073709551616 - c' * 18446744073709551616 = g (o + K) - b - q * d (0 + (K : Int)) - c) :
    vN (updF g (o + K) w) o (K + 1) = vN f o (K + 1) - q * vN d 0 (K + 1) + (c' + b') * W1 ^ (K + 1) := by
  have e1 : vN (updF g (o + K) w) o K = vN g o K := vN_congr fun j h1 h2 => upd_out (by omega)
  have e2 : w = f (o + K) - b - q * d (0 + (K : Int)) - c + (b' + c') * 18446744073709551616 := by rw [← hu]; omega
  simp only [vN]
  rw [e1, upd_in, e, e2, Int.pow_succ]
  generalize W1 ^ K = p
  generalize f (o + K) = x
  generalize d (0 + (K : Int)) = y
  generalize vN f o K = z
  generalize vN d 0 K = u
  unfold W1
  grind
theorem give_next {f d g : Int → Int} {o c w c' : Int} {K : Nat} (e : vN g o K + c * W1 ^ K = vN f o K + vN d 0 K) (hu : g (o + K) = f (o + K)) (hw : w + c' * 18446744073709551616 = g (o + K) + d (0 + (K : Int)) + c) :
    vN (updF g (o + K) w) o (K + 1) + c' * W1 ^ (K + 1) = vN f o (K + 1) + vN d 0 (K + 1) := by
  have e1 : vN (updF g (o + K) w) o K = vN g o K := vN_congr fun j h1 h2 => upd_out (by omega)
  have e2 : w = f (o + K) + d (0 + (K : Int)) + c - c' * 18446744073709551616 := by rw [← hu]; omega
  have e3 : vN g o K = vN f o K + vN d 0 K - c * W1 ^ K := by omega
  simp only [vN]
  rw [e1, upd_in, e3, e2, Int.pow_succ]
  generalize W1 ^ K = p
  generalize f (o + K) = x
  generalize d (0 + (K : Int)) = y
  generalize vN f o K = z
  generalize vN d 0 K = u
  unfold W1
  grind
theorem take_end {f d g : Int → Int} {o q c b w b' : Int} {K : Nat} (e : vN g o K = vN f o K - q * vN d 0 K + (c + b) * W1 ^ K) (hu : g (o + K) = f (o + K)) (hw : w - b' * 18446744073709551616 = g (o + K) - c - b) :
    vN (updF g (o + K) w) o (K + 1) = vN f o (K + 1) - q * vN d 0 K + b' * W1 ^ (K + 1) := by
  have e1 : vN (updF g (o + K) w) o K = vN g o K := vN_congr fun j h1 h2 => upd_out (by omega)
  have e2 : w = f (o + K) - b - c + b' * 18446744073709551616 := by rw [← hu]; omega
  simp only [vN]
  rw [e1, upd_in, e, e2, Int.pow_succ]
  generalize W1 ^ K = p
  generalize f (o + K) = x
  generalize vN f o K = z
  generalize vN d 0 K = u
  unfold W1
  grind
theorem give_end {f d g : Int → Int} {o c w c' : Int} {K : Nat} (e : vN g o K + c * W1 ^ K = vN f o K + vN d 0 K) (hu : g (o + K) = f (o + K)) (hw : w + c' * 18446744073709551616 = g (o + K) + c) :
    vN (updF g (o + K) w) o (K + 1) + c' * W1 ^ (K + 1) = vN f o (K + 1) + vN d 0 K := by
  have e1 : vN (updF g (o + K) w) o K = vN g o K := vN_congr fun j h1 h2 => upd_out (by omega)
  have e2 : w = f (o + K) + c - c' * 18446744073709551616 := by rw [← hu]; omega
  have e3 : vN g o K = vN f o K + vN d 0 K - c * W1 ^ K := by omega
  simp only [vN]
  rw [e1, upd_in, e3, e2, Int.pow_succ]
  generalize W1 ^ K = p
  generalize f (o + K) = x
  generalize vN f o K = z
  generalize vN d 0 K = u
  unfold W1
  grind
theorem qest_in {u v d : Int} (hu : 0 ≤ u ∧ u ≤ 18446744073709551615) (hv : 0 ≤ v ∧ v ≤ 18446744073709551615) (hd : 9223372036854775808 ≤ d) (hd' : d ≤ 18446744073709551615) :
    (0 ≤ qestF u v d ∧ qestF u v d ≤ 18446744073709551615) ∧ (qestF u v d = 18446744073709551615 ∨ u * 18446744073709551616 + v < (qestF u v d + 1) * d) := by
  unfold qestF
  split
  · rename_i e
    have a := Int.emod_add_mul_ediv (u * 18446744073709551616 + v) d
    have b := Int.emod_lt_of_pos (u * 18446744073709551616 + v) (show 0 < d by omega)
    refine ⟨⟨Int.ediv_nonneg (by omega) (by omega), ?_⟩, .inr ?_⟩
    · have : (u * 18446744073709551616 + v) / d < 18446744073709551616 := Int.ediv_lt_of_lt_mul (by omega) (by omega)
      omega
    · rw [Int.add_mul, Int.one_mul, Int.mul_comm ((u * 18446744073709551616 + v) / d)]; omega
  · exact ⟨by omega, .inl rfl⟩
theorem quo_est {u d : Int → Int} {o q : Int} {M : Nat} (hu : ∀ j, o ≤ j → j < o + (M : Int) → 0 ≤ u j ∧ u j ≤ 18446744073709551615) (hd : ∀ j, 0 ≤ j → j < 0 + (M : Int) → 0 ≤ d j ∧ d j ≤ 18446744073709551615)
    (hq : 0 ≤ q) (hlt : vN u o (M + 2) < vN d 0 (M + 1) * 18446744073709551616) (h : q = 18446744073709551615 ∨ u (o + (M + 1 : Nat)) * 18446744073709551616 + u (o + M) < (q + 1) * d (0 + M)) :
    vN u o (M + 2) < (q + 1) * vN d 0 (M + 1) := by
  rcases h with rfl | h
  · rw [Int.mul_comm]; exact hlt
  · have a := vN_in hu
    have b := vN_in hd
    have p := W1_pos M
    simp only [vN] at hlt ⊢
    rw [Int.pow_succ]
    have c := Int.mul_le_mul_of_nonneg_right (show u (o + (M + 1 : Nat)) * 18446744073709551616 + u (o + M) ≤ (q + 1) * d (0 + M) - 1 by omega) (Int.le_of_lt p)
    have e := Int.mul_nonneg (show 0 ≤ q + 1 by omega) b.1
    have f1 : (u (o + (M + 1 : Nat)) * 18446744073709551616 + u (o + M)) * W1 ^ M = u (o + (M + 1 : Nat)) * (W1 ^ M * W1) + u (o + M) * W1 ^ M := by
      generalize W1 ^ M = w
      unfold W1
      grind
    have f2 : ((q + 1) * d (0 + M) - 1) * W1 ^ M = (q + 1) * (d (0 + M) * W1 ^ M) - W1 ^ M := by rw [Int.sub_mul, Int.mul_assoc, Int.one_mul]
    rw [Int.mul_add]
    omega
end Go.Proofs.YtaaobpalpcdlbaaDoor.Bits
namespace Go.Proofs.YtaaobpalpcdlbaaDoor.Bits
open Go Go.Sx Go.RowKit
set_option linter.unusedVariables false
set_option maxRecDepth 100000
def tab9 (a b c d e f g h i : Int) : Int → Int := fun j => if j = 0 then a else if j = 1 then b else if j = 2 then c else if j = 3 then d else if j = 4 then e else if j = 5 then f else if j = 6 then g else if j = 7 then h else i
theorem tab9_W {a b c d e f g h i : Int} (ha : 0 ≤ a ∧ a ≤ 18446744073709551615) (hb : 0 ≤ b ∧ b ≤ 18446744073709551615) (hc : 0 ≤ c ∧ c ≤ 18446744073709551615) (hd : 0 ≤ d ∧ d ≤ 18446744073709551615) (he : 0 ≤ e ∧ e ≤ 18446744073709551615) (hf : 0 ≤ f ∧ f ≤ 18446744073709551615) (hg : 0 ≤ g ∧ g ≤ 18446744073709551615) (hh : 0 ≤ h ∧ h ≤ 18446744073709551615) (hi : 0 ≤ i ∧ i ≤ 18446744073709551615) : W9 (tab9 a b c d e f g h i) 9 := fun j _ _ => by
  unfold tab9
  repeat' split
  all_goals assumption
theorem dWords {N : Nat} {M v0 v1 v2 v3 v4 v5 v6 v7 v8 : Int} (hN : 1 ≤ N ∧ N ≤ 4) (h0 : 0 ≤ v0 ∧ v0 ≤ 18446744073709551615) (h1 : 0 ≤ v1 ∧ v1 ≤ 18446744073709551615) (h2 : 0 ≤ v2 ∧ v2 ≤ 18446744073709551615) (h3 : 0 ≤ v3 ∧ v3 ≤ 18446744073709551615)
    (h4 : 0 ≤ v4 ∧ v4 ≤ 18446744073709551615) (h5 : 0 ≤ v5 ∧ v5 ≤ 18446744073709551615) (h6 : 0 ≤ v6 ∧ v6 ≤ 18446744073709551615) (h7 : 0 ≤ v7 ∧ v7 ≤ 18446744073709551615) (h8 : 0 ≤ v8 ∧ v8 ≤ 18446744073709551615)
    (e : val4 v0 v1 v2 v3 + val4 v4 v5 v6 v7 * 115792089237316195423570985008687907853269984665640564039457584007913129639936 + v8 * 13407807929942597099574024998205846127479365820592393377723561443721764030073546976801874298166903427690031858186486050853753882811946569946433649006084096 = M)
    (l1 : 2 ^ (64 * N - 1) ≤ M) (l2 : M < 2 ^ (64 * N)) {d : Int → Int} (e0 : d 0 = v0) (e1 : d 1 = v1) (e2 : d 2 = v2) (e3 : d 3 = v3) :
    vN d 0 N = M ∧ (9223372036854775808 ≤ d ((N : Int) - 1) ∧ d ((N : Int) - 1) ≤ 18446744073709551615) ∧ ∀ j, 0 ≤ j → j < 0 + (N : Int) → 0 ≤ d j ∧ d j ≤ 18446744073709551615 := by
  have r : ∀ j, 0 ≤ j → j < 0 + (N : Int) → 0 ≤ d j ∧ d j ≤ 18446744073709551615 := fun j j0 j1 => by
    have : j = 0 ∨ j = 1 ∨ j = 2 ∨ j = 3 := by omega
    rcases this with rfl | rfl | rfl | rfl
    · rw [e0]; exact h0
    · rw [e1]; exact h1
    · rw [e2]; exact h2
    · rw [e3]; exact h3
  have key : vN d 0 N = M ∧ 9223372036854775808 ≤ d ((N : Int) - 1) := by
    have : N = 1 ∨ N = 2 ∨ N = 3 ∨ N = 4 := by omega
    unfold val4 at e
    rcases this with rfl | rfl | rfl | rfl
    · rw [show (2 : Int) ^ (64 * 1 - 1) = 9223372036854775808 from rfl] at l1
      rw [show (2 : Int) ^ (64 * 1) = 18446744073709551616 from rfl] at l2
      simp only [vN, show (0 : Int) + (0 : Nat) = 0 from rfl, show ((1 : Nat) : Int) - 1 = 0 from rfl, e0, W1]
      omega
    · rw [show (2 : Int) ^ (64 * 2 - 1) = 170141183460469231731687303715884105728 from rfl] at l1
      rw [show (2 : Int) ^ (64 * 2) = 340282366920938463463374607431768211456 from rfl] at l2
      simp only [vN, show (0 : Int) + (0 : Nat) = 0 from rfl, show (0 : Int) + (1 : Nat) = 1 from rfl, show ((2 : Nat) : Int) - 1 = 1 from rfl, e0, e1, W1]
      omega
    · rw [show (2 : Int) ^ (64 * 3 - 1) = 3138550867693340381917894711603833208051177722232017256448 from rfl] at l1
      rw [show (2 : Int) ^ (64 * 3) = 6277101735386680763835789423207666416102355444464034512896 from rfl] at l2
      simp only [vN, show (0 : Int) + (0 : Nat) = 0 from rfl, show (0 : Int) + (1 : Nat) = 1 from rfl, show (0 : Int) + (2 : Nat) = 2 from rfl, show ((3 : Nat) : Int) - 1 = 2 from rfl, e0, e1, e2, W1]
      omega
    · rw [show (2 : Int) ^ (64 * 4 - 1) = 57896044618658097711785492504343953926634992332820282019728792003956564819968 from rfl] at l1
      rw [show (2 : Int) ^ (64 * 4) = 115792089237316195423570985008687907853269984665640564039457584007913129639936 from rfl] at l2
      simp only [vN, show (0 : Int) + (0 : Nat) = 0 from rfl, show (0 : Int) + (1 : Nat) = 1 from rfl, show (0 : Int) + (2 : Nat) = 2 from rfl, show (0 : Int) + (3 : Nat) = 3 from rfl, show ((4 : Nat) : Int) - 1 = 3 from rfl, e0, e1, e2, e3, W1]
      omega
  exact ⟨key.1, ⟨key.2, (r _ (by omega) (by omega)).2⟩, r⟩
theorem part_next {u d q g : Int → Int} {U qh : Int} {J N : Nat} (hJ : J + 1 + N ≤ 9) (wu : W9 u 9) (wg : W9 g 9) (wq : W9 q 8) (hd : ∀ j, 0 ≤ j → j < 0 + (N : Int) → 0 ≤ d j ∧ d j ≤ 18446744073709551615)
    (hU : vN u 0 (J + 1 + N) + vN d 0 N * W1 ^ (J + 1) * vN q ((J + 1 : Nat) : Int) (8 - (J + 1)) = U) (hqh : 0 ≤ qh ∧ qh ≤ 18446744073709551615)
    (ho : ∀ j : Int, j < J ∨ (J : Int) + N < j → g j = u j) (e : vN g J (N + 1) + qh * vN d 0 N = vN u J (N + 1)) (hlt : vN g J (N + 1) < vN d 0 N) (hJ8 : J < 8) :
    divR N U ((J : Int) - 1) g (updF q J qh) d := by
  have wgJ : ∀ j : Int, (J : Int) ≤ j → j < J + (N : Int) → 0 ≤ g j ∧ g j ≤ 18446744073709551615 := fun j a b => wg j (by omega) (by omega)
  have gb := vN_in wgJ
  have gt := wg (J + N) (by omega) (by omega)
  have db := vN_in hd
  have p := W1_pos N
  have top : g ((J : Int) + N) = 0 := by
    simp only [vN] at hlt
    rcases Int.lt_or_le 0 (g ((J : Int) + N)) with c | c
    · have := Int.mul_le_mul_of_nonneg_right (show 1 ≤ g ((J : Int) + N) by omega) (Int.le_of_lt p)
      omega
    · omega
  have e' : vN g J N + qh * vN d 0 N = vN u J (N + 1) := by
    have : vN g J (N + 1) = vN g J N := by simp only [vN]; rw [top]; omega
    rw [← this]; exact e
  refine ⟨J, N, ⟨rfl, rfl, by omega⟩, ?_, ?_, fun _ => top, wg, upd_W9 wq hqh⟩
  · have s1 : vN u 0 (J + 1 + N) = vN u 0 J + W1 ^ J * vN u J (N + 1) := by
      rw [show J + 1 + N = J + (N + 1) by omega, vN_split]; simp
    have s2 : vN g 0 (J + N) = vN u 0 J + W1 ^ J * vN g J N := by
      rw [vN_split, vN_congr (f := g) (g := u) (o := 0) (n := J) fun j a b => ho j (.inl (by omega))]; simp
    have s3 : vN (updF q J qh) J (8 - J) = qh + W1 * vN q ((J + 1 : Nat) : Int) (8 - (J + 1)) := by
      rw [show 8 - J = (8 - (J + 1)) + 1 by omega, vN_head, upd_in]
      congr 2
      exact vN_congr fun j a b => upd_out (by omega)
    rw [s2, s3, ← hU, s1, ← e', Int.pow_succ]
    generalize vN u 0 J = a
    generalize W1 ^ J = b
    generalize vN g J N = c
    generalize vN d 0 N = d
    generalize vN q ((J + 1 : Nat) : Int) (8 - (J + 1)) = x
    generalize W1 = w
    grind
  · simp only [vN] at hlt
    rw [top] at hlt; omega
theorem rem4 {u : Int → Int} {N s : Nat} {r : Int} (hN : 1 ≤ N ∧ N ≤ 4) (hs : s ≤ 63) (wu : W9 u 9) (h0 : u N = 0) (h : vN u 0 N = r * 2 ^ s) {f : Int → Int} (hf : ∀ j, 0 ≤ j → j < 4 → f j = if j < (N : Int) then u j / 2 ^ s + u (j + 1) % 2 ^ s * 2 ^ (64 - s) else 0) :
    r = val4 (f 0) (f 1) (f 2) (f 3) ∧ ∀ j, 0 ≤ j → j < 4 → 0 ≤ f j ∧ f j ≤ 18446744073709551615 := by
  constructor
  · have z : rwf 0 0 s = 0 := by simp [rwf]
    have f0 := hf 0 (by omega) (by omega)
    have f1 := hf 1 (by omega) (by omega)
    have f2 := hf 2 (by omega) (by omega)
    have f3 := hf 3 (by omega) (by omega)
    have : N = 1 ∨ N = 2 ∨ N = 3 ∨ N = 4 := by omega
    rcases this with rfl | rfl | rfl | rfl
    · have := rval (w0 := u 0) (w1 := 0) (w2 := 0) (w3 := 0) (r := r) hs (by rw [← h]; simp [vN, val4])
      rw [z] at this
      rw [← this, f0, f1, f2, f3, if_pos (by decide), if_neg (by decide), if_neg (by decide), if_neg (by decide)]
      have h0 : u (0 + 1) = 0 := h0
      rw [h0]; rfl
    · have := rval (w0 := u 0) (w1 := u 1) (w2 := 0) (w3 := 0) (r := r) hs (by rw [← h]; simp [vN, val4, W1])
      rw [z] at this
      rw [← this, f0, f1, f2, f3, if_pos (by decide), if_pos (by decide), if_neg (by decide), if_neg (by decide)]
      have h0 : u (1 + 1) = 0 := h0
      rw [h0]; rfl
    · have := rval (w0 := u 0) (w1 := u 1) (w2 := u 2) (w3 := 0) (r := r) hs (by rw [← h]; simp [vN, val4, W1])
      rw [z] at this
      rw [← this, f0, f1, f2, f3, if_pos (by decide), if_pos (by decide), if_pos (by decide), if_neg (by decide)]
      have h0 : u (2 + 1) = 0 := h0
      rw [h0]; rfl
    · have := rval (w0 := u 0) (w1 := u 1) (w2 := u 2) (w3 := u 3) (r := r) hs (by rw [← h]; simp [vN, val4, W1])
      rw [← this, f0, f1, f2, f3, if_pos (by decide), if_pos (by decide), if_pos (by decide), if_pos (by decide)]
      have h0 : u (3 + 1) = 0 := h0
      rw [h0]; rfl
  · intro j j0 j1
    rw [hf j j0 j1]
    split
    · exact (rwf_in (wu j j0 (by omega)) (wu (j + 1) (by omega) (by omega)) hs).2.2.2.2
    · omega
end Go.Proofs.YtaaobpalpcdlbaaDoor.Bits
namespace Go.Proofs.YtaaobpalpcdlbaaDoor.Bits
open Go Go.Sx Go.RowKit
set_option linter.unusedVariables false
set_option maxRecDepth 100000
set_option maxHeartbeats 4000000 in
theorem pureDiv (lo0 lo1 lo2 lo3 hi0 hi1 hi2 hi3 m0 m1 m2 m3 : Int) (h : U64 lo0 ∧ U64 lo1 ∧ U64 lo2 ∧ U64 lo3 ∧ U64 hi0 ∧ U64 hi1 ∧ U64 hi2 ∧ U64 hi3 ∧ U64 m0 ∧ U64 m1 ∧ U64 m2 ∧ U64 m3) : VCDiv lo0 lo1 lo2 lo3 hi0 hi1 hi2 hi3 m0 m1 m2 m3 := by
  obtain ⟨hl0, hl1, hl2, hl3, hh0, hh1, hh2, hh3, hm0, hm1, hm2, hm3⟩ := h
  have n0 : 0 ≤ (0 : Int) ∧ (0 : Int) ≤ 18446744073709551615 := by omega
  have hml := val4_lt hm0 hm1 hm2 hm3
  refine ⟨⟨hm0, hm1, hm2, hm3⟩, fun v1 h1 => brE (fun e => ?_) fun e => ?_⟩
  · have hM : val4 m0 m1 m2 m3 = 0 := by
      rcases Int.lt_or_le 0 (val4 m0 m1 m2 m3) with c | c
      · obtain ⟨k, ek, _⟩ := lenF_spec c
        omega
      · omega
    have q0 : qF (val4 lo0 lo1 lo2 lo3) (val4 hi0 hi1 hi2 hi3) (val4 m0 m1 m2 m3) = 0 := by unfold qF; rw [if_pos hM]
    have r0 : rF (val4 lo0 lo1 lo2 lo3) (val4 hi0 hi1 hi2 hi3) (val4 m0 m1 m2 m3) = 0 := by unfold rF; rw [if_pos hM]
    rw [q0, r0]
    simp [limb, hM]
  have hM0 : 0 < val4 m0 m1 m2 m3 := by
    rcases Int.lt_or_le 0 (val4 m0 m1 m2 m3) with c | c
    · exact c
    · exfalso
      apply e
      rw [h1]; unfold lenF; rw [if_pos c]
  have hb := lenF_bound (x := val4 m0 m1 m2 m3) (by omega) 256 (by have := hml.2; exact this)
  have hp : 1 ≤ v1 := by obtain ⟨k, ek, _⟩ := lenF_spec hM0; omega
  intro v3 h3 v4 h4 v5 h5 v6 h6
  rw [i64_id (by omega) (by omega)] at h3
  rw [tdiv_nonneg (by omega), i64_id (by omega) (by omega)] at h4
  rw [i64_id (by omega) (by omega)] at h5
  rw [i64_id (by omega) (by omega)] at h6
  obtain ⟨N, hN⟩ := Int.eq_ofNat_of_zero_le (show 0 ≤ v4 by omega)
  obtain ⟨s, hs⟩ := Int.eq_ofNat_of_zero_le (show 0 ≤ v6 by omega)
  have n1 : 1 ≤ N ∧ N ≤ 4 := by omega
  have hs63 : s ≤ 63 := by omega
  obtain ⟨nm1, nm2⟩ := norm N (s := s) hM0 (by omega)
  subst hs
  refine ⟨⟨hm0, hm1, hm2, hm3, n0, n0, n0, n0, ⟨by omega, by omega⟩, by omega, by omega⟩, ?_⟩
  intro v7 g7 v8 g8 v9 g9 v10 g10 v11 g11 v12 g12 v13 g13 v14 g14 v15 g15
  refine ⟨⟨hl0, hl1, hl2, hl3, hh0, hh1, hh2, hh3, ⟨by omega, by omega⟩, by omega, by omega⟩, ?_⟩
  intro v16 g16 v17 g17 v18 g18 v19 g19 v20 g20 v21 g21 v22 g22 v23 g23 v24 g24 v25 h25
  simp only [Int.toNat_natCast] at g7 g8 g9 g10 g11 g12 g13 g14 g15 g16 g17 g18 g19 g20 g21 g22 g23 g24
  rw [i64_id (by omega) (by omega)] at h25
  have sd := sval (l0 := m0) (l1 := m1) (l2 := m2) (l3 := m3) (l4 := 0) (l5 := 0) (l6 := 0) (l7 := 0) hs63
  rw [show val8 m0 m1 m2 m3 0 0 0 0 = val4 m0 m1 m2 m3 by unfold val8 val4; omega, ← g7, ← g8, ← g9, ← g10, ← g11, ← g12] at sd
  have su := sval (l0 := lo0) (l1 := lo1) (l2 := lo2) (l3 := lo3) (l4 := hi0) (l5 := hi1) (l6 := hi2) (l7 := hi3) hs63
  rw [← g16, ← g17, ← g18, ← g19, ← g20, ← g21, ← g22, ← g23, ← g24] at su
  have rd7 := shw_in hm0 n0 hs63
  have rd8 := shw_in hm1 hm0 hs63
  have rd9 := shw_in hm2 hm1 hs63
  have rd10 := shw_in hm3 hm2 hs63
  have rd11 := shw_in n0 hm3 hs63
  have rd12 := shw_in n0 n0 hs63
  rw [← g7] at rd7; rw [← g8] at rd8; rw [← g9] at rd9; rw [← g10] at rd10; rw [← g11] at rd11; rw [← g12] at rd12
  have ru16 := shw_in hl0 n0 hs63
  have ru17 := shw_in hl1 hl0 hs63
  have ru18 := shw_in hl2 hl1 hs63
  have ru19 := shw_in hl3 hl2 hs63
  have ru20 := shw_in hh0 hl3 hs63
  have ru21 := shw_in hh1 hh0 hs63
  have ru22 := shw_in hh2 hh1 hs63
  have ru23 := shw_in hh3 hh2 hs63
  have ru24 := shw_in n0 hh3 hs63
  rw [← g16] at ru16; rw [← g17] at ru17; rw [← g18] at ru18; rw [← g19] at ru19; rw [← g20] at ru20; rw [← g21] at ru21; rw [← g22] at ru22; rw [← g23] at ru23; rw [← g24] at ru24
  have t24 : v24 < 9223372036854775808 := by
    have a := high_lt hh3 hs63
    have b : (2 : Int) ^ s ≤ 2 ^ 63 := by
      have : (2 : Nat) ^ s ≤ 2 ^ 63 := Nat.pow_le_pow_right (by omega) hs63
      exact_mod_cast this
    rw [show (2 : Int) ^ 63 = 9223372036854775808 from rfl] at b
    rw [g24]; unfold shw; simp only [Int.zero_mul]; omega
  have e13 : v13 = v12 := by rw [g13, g12]
  have e14 : v14 = v12 := by rw [g14, g12]
  have e15 : v15 = v12 := by rw [g15, g12]
  clear g7 g8 g9 g10 g11 g12 g13 g14 g15 g16 g17 g18 g19 g20 g21 g22 g23 g24
  have hDall : ∀ d : Int → Int, d 0 = v7 → d 1 = v8 → d 2 = v9 → d 3 = v10 → vN d 0 N = val4 m0 m1 m2 m3 * 2 ^ s ∧ (9223372036854775808 ≤ d ((N : Int) - 1) ∧ d ((N : Int) - 1) ≤ 18446744073709551615) ∧ ∀ j, 0 ≤ j → j < 0 + (N : Int) → 0 ≤ d j ∧ d j ≤ 18446744073709551615 :=
    fun d d0 d1 d2 d3 => dWords n1 rd7 rd8 rd9 rd10 rd11 rd12 rd12 rd12 rd12 sd nm1 nm2 d0 d1 d2 d3
  have hD0 : 0 < val4 m0 m1 m2 m3 * 2 ^ s := Int.mul_pos hM0 (Int.pow_pos (by omega))
  refine ⟨⟨(8 - (N : Int), tab9 v16 v17 v18 v19 v20 v21 v22 v23 v24, fun _ => 0, tab9 v7 v8 v9 v10 v11 v12 v13 v14 v15), ⟨⟨rfl, rfl, rfl, rfl⟩, 9 - N, N, ⟨by dsimp only; omega, hN, by omega⟩, ?_, ?_, fun z => by omega, tab9_W ru16 ru17 ru18 ru19 ru20 ru21 ru22 ru23 ru24, fun _ _ _ => by dsimp only; omega⟩, by simp [h25, hN], by simp, by simp, by simp, by simp, by simp, by simp, by simp [tab9], by simp [tab9], by simp, trivial⟩, ?_⟩
  · rw [vN_zero, show 9 - N + N = 9 by omega]
    simp only [vN, tab9, W1]
    unfold val9w val8 val4
    simp
    omega
  · obtain ⟨_, ⟨k1, _⟩, k3⟩ := hDall (tab9 v7 v8 v9 v10 v11 v12 v13 v14 v15) rfl rfl rfl rfl
    obtain ⟨M, rfl⟩ : ∃ M, N = M + 1 := ⟨N - 1, by omega⟩
    refine vN_top (fun j a b => tab9_W ru16 ru17 ru18 ru19 ru20 ru21 ru22 ru23 ru24 j (by omega) (by omega)) (fun j a b => k3 j (by omega) (by omega)) ?_
    rw [show ((9 - (M + 1) : Nat) : Int) + M = 8 by omega]
    rw [show (0 : Int) + (M : Int) = ((M + 1 : Nat) : Int) - 1 by omega]
    show v24 < tab9 v7 v8 v9 v10 v11 v12 v13 v14 v15 (((M + 1 : Nat) : Int) - 1)
    omega
  rintro ⟨i, u, q, d⟩ ⟨⟨d0, d1, d2, d3⟩, I, N', ⟨hi, hN', hIN⟩, hU, hlt, htop, wu, wq⟩
  dsimp only at *
  obtain rfl : N' = N := by omega
  obtain ⟨hD, ⟨dn1, dn2⟩, hd⟩ := hDall d d0 d1 d2 d3
  have db := vN_in hd
  subst hN
  refine br (fun c => ?_) fun c => ?_
  · obtain ⟨J, rfl⟩ : ∃ J, I = J + 1 := ⟨I - 1, by omega⟩
    obtain rfl : i = (J : Int) := by omega
    intro v29 h29 v30 h30
    rw [i64_id (by omega) (by omega)] at h29
    rw [i64_id (by omega) (by omega)] at h30
    refine ⟨by omega, fun v31 h31 v32 h32 => ⟨by omega, fun v33 h33 v34 h34 => ?_⟩⟩
    obtain rfl : v33 = (N' : Int) := by omega
    refine ⟨by omega, by omega, fun v35 h35 => ⟨by omega, fun v36 h36 v37 h37 => ?_⟩⟩
    rw [i64_id (by omega) (by omega)] at h37
    refine ⟨by omega, fun v38 h38 => ⟨by omega, fun v39 h39 v40 h40 => ⟨?_, ?_⟩⟩⟩
    · subst h40
      refine ⟨fun c40 => ?_, fun c40 => ?_⟩
      · have c40 := of_decide_eq_true c40
        refine ⟨by omega, fun v41 h41 => ⟨by omega, fun v42 h42 v43 h43 => ?_⟩⟩
        rw [i64_id (by omega) (by omega)] at h43
        refine ⟨by omega, fun v44 h44 => ⟨by omega, fun v45 h45 v46 h46 => ?_⟩⟩
        rw [i64_id (by omega) (by omega)] at h46
        refine ⟨by omega, fun v47 h47 => ⟨by omega, fun v48 h48 => ?_⟩⟩
        obtain rfl : v41 = v35 := by omega
        obtain rfl : v47 = v38 := by omega
        obtain rfl : v42 = v36 := by rw [h42, h36]
        obtain rfl : v48 = v39 := by rw [h48, h39]
        refine ⟨⟨by rw [h42]; exact wu _ (by omega) (by omega), by rw [h45]; exact wu _ (by omega) (by omega), by rw [h48]; exact hd _ (by omega) (by omega), c40⟩, fun v49 h49 v50 _ => ⟨_, rfl, ?_, by simp, by simp, trivial⟩⟩
        have : v49 = qestF v42 (u ((J : Int) + ((N' : Int) - 1))) v48 := by
          unfold qestF; rw [if_pos c40, h49, h45, show v44 = (J : Int) + ((N' : Int) - 1) by omega]
        simp [this]
      · have c40 := of_decide_eq_false c40
        refine ⟨_, rfl, ?_, by simp, by simp, trivial⟩
        have : 18446744073709551615 = qestF v36 (u ((J : Int) + ((N' : Int) - 1))) v39 := by
          unfold qestF; rw [if_neg c40]
        simp [← this]
    clear h40
    intro v57 h57
    -- what is guessed
    have w36 := wu v35 (by omega) (by omega)
    have wm := wu ((J : Int) + ((N' : Int) - 1)) (by omega) (by omega)
    obtain ⟨M, rfl⟩ : ∃ M, N' = M + 1 := ⟨N' - 1, by omega⟩
    have e39 : v39 = d (0 + (M : Int)) := by rw [h39]; congr 1; omega
    have e36 : v36 = u ((J : Int) + ((M + 1 : Nat) : Int)) := by rw [h36, h35]
    have em : (J : Int) + (((M + 1 : Nat) : Int) - 1) = J + M := by omega
    have dn1 : 9223372036854775808 ≤ d (0 + (M : Int)) := by rw [show (0 : Int) + M = ((M + 1 : Nat) : Int) - 1 by omega]; exact dn1
    have dn2 : d (0 + (M : Int)) ≤ 18446744073709551615 := by rw [show (0 : Int) + M = ((M + 1 : Nat) : Int) - 1 by omega]; exact dn2
    obtain ⟨qr, qe⟩ := qest_in (u := v36) (v := u ((J : Int) + (((M + 1 : Nat) : Int) - 1))) (d := v39) (by rw [h36]; exact w36) wm (by rw [e39]; exact dn1) (by rw [e39]; exact dn2)
    rw [← h57] at qr qe
    have hx0 : vN u J (M + 2) < vN d 0 (M + 1) * 18446744073709551616 := by
      rw [show M + 2 = (M + 1) + 1 by omega, vN_head]
      have a := wu J (by omega) (by omega)
      have b : vN u ((J : Int) + 1) (M + 1) < vN d 0 (M + 1) := by rw [show (J : Int) + 1 = ((J + 1 : Nat) : Int) by omega]; exact hlt
      unfold W1; omega
    have hx : vN u J (M + 2) < (v57 + 1) * vN d 0 (M + 1) := by
      refine quo_est (fun j a b => wu j (by omega) (by omega)) (fun j a b => hd j a (by omega)) qr.1 hx0 ?_
      rw [em] at qe
      rw [← e36, ← e39]; exact qe
    have hx1 := vN_in (f := u) (o := (J : Int)) (n := M + 2) (fun j a b => wu j (by omega) (by omega))
    clear qe h57 e36 h36 h39 w36 wm em dn1 dn2 e39
    generalize hD' : vN d 0 (M + 1) = D at *
    refine ⟨by omega, ⟨(0, 0, 0, u), ⟨0, rfl, by dsimp only; omega, by simp [vN], fun _ _ => rfl, wu, by dsimp only; omega, by dsimp only; omega, by dsimp only; omega⟩, by simp, by simp, by simp, trivial⟩, ?_⟩
    rintro ⟨k, cc, bb, g⟩ ⟨K, hk, hkn, ht, hout, wg, hcc, hbb⟩
    dsimp only at *
    subst hk
    refine br (fun ck => ?_) fun ck => ?_
    · -- a word is taken away
      refine ⟨by omega, fun v63 h63 => ⟨by omega, fun v64 h64 => ?_⟩⟩
      have r64 := hd v63 (by omega) (by omega)
      rw [← h64] at r64
      refine ⟨⟨qr, r64⟩, fun v65 h65 v66 h66 => ⟨⟨⟨by omega, by omega⟩, hcc, by omega, by omega⟩, fun v67 h67 v68 h68 v69 h69 => ⟨by omega, fun v70 h70 => ⟨by omega, fun v71 h71 => ?_⟩⟩⟩⟩
      have r71 := wg v70 (by omega) (by omega)
      rw [← h71] at r71
      refine ⟨⟨r71, ⟨by unfold s64 at h67; omega, by unfold s64 at h67; omega⟩, hbb⟩, fun v72 h72 v73 h73 => ⟨by omega, fun v74 h74 => ⟨by omega, fun v75 h75 v76 h76 => ?_⟩⟩⟩
      rw [i64_id (by omega) (by omega)] at h76
      obtain ⟨tw, tc, tw2, tb⟩ := takeW qr r64 r71 hcc hbb h65 h66 h67 h68 h69 h72 h73
      have e70 : v70 = (J : Int) + K := by omega
      have e74 : v74 = (J : Int) + K := by omega
      have e63 : v63 = 0 + (K : Int) := by omega
      rw [e74] at h75
      refine ⟨(v76, v69, v73, v75), ⟨K + 1, by dsimp only; omega, by dsimp only; omega, ?_, ?_, ?_, tc, tb⟩, by simp, by dsimp only; omega⟩
      · dsimp only
        rw [h75]
        refine take_next ht (hout _ (by omega)) ?_
        rw [h71, h64, e70, e63] at tw
        exact tw
      · intro j hj
        dsimp only at hj ⊢
        rw [h75, upd_out (by omega)]
        exact hout j (by omega)
      · rw [h75]; exact upd_W9 wg tw2
    · -- the last word
      obtain rfl : K = M + 1 := by omega
      refine ⟨by omega, by omega, by omega, fun v80 h80 => ⟨by omega, fun v81 h81 => ?_⟩⟩
      have r81 := wg v80 (by omega) (by omega)
      rw [← h81] at r81
      refine ⟨⟨r81, hcc, hbb⟩, fun v82 h82 v83 h83 => ⟨by omega, fun v84 h84 => ⟨by omega, fun v85 h85 => ?_⟩⟩⟩
      obtain ⟨k1, k2, k3, k4, k5⟩ := subW r81 hcc hbb.1 hbb.2 h82 h83
      have e80 : v80 = (J : Int) + ((M + 1 : Nat) : Int) := by omega
      have e84 : v84 = (J : Int) + ((M + 1 : Nat) : Int) := by omega
      rw [e84] at h85
      have te := take_end (b' := v83) (w := v82) ht (hout _ (by omega)) (by rw [← e80, ← h81]; omega)
      rw [← h85, hD'] at te
      have w85 : W9 v85 9 := by rw [h85]; exact upd_W9 wg ⟨k2, k3⟩
      have o85 : ∀ j : Int, j < J ∨ (J : Int) + ((M + 1 : Nat) : Int) < j → v85 j = u j := fun j hj => by rw [h85, upd_out (by omega)]; exact hout j (by omega)
      rw [Int.add_mul, Int.one_mul] at hx
      clear h85 e84 h84 k1 h82 h83 e80 h81 h80 r81 hout ht ck
      refine ⟨⟨(v57, v83, v85), ⟨M + 1, rfl, ⟨rfl, ?_⟩, fun _ _ => rfl, w85, qr, k4, k5⟩, by simp, by simp, by simp, trivial⟩, ?_⟩
      · have te2 : vN v85 (J : Int) (M + 2) = vN u (J : Int) (M + 2) - v57 * D + v83 * W1 ^ (M + 2) := te
        show vN v85 (J : Int) (M + 2) - v83 * W1 ^ (M + 2) < vN d 0 (M + 1)
        rw [te2, hD']; omega
      rintro ⟨qh, b, g2⟩ ⟨N2, hN2, ⟨pe, pl⟩, po, pw, pq, pb⟩
      dsimp only at *
      obtain rfl : N2 = M + 1 := by omega
      rw [te, hD'] at pe
      rw [hD'] at pl
      have pe' : vN g2 J (M + 2) - b * W1 ^ (M + 2) + qh * D = vN u J (M + 2) := by
        have : M + 1 + 1 = M + 2 := by omega
        rw [this] at pe
        omega
      have b0 : b = 0 ∨ b = 1 := by omega
      refine brE (fun c90 => ?_) fun c90 => ?_
      · -- one is given back
        subst c90
        have g2b := vN_in (f := g2) (o := (J : Int)) (n := M + 2) (fun j a b => pw j (by omega) (by omega))
        have qh1 : 1 ≤ qh := by
          rcases Int.lt_or_le qh 1 with c | c
          · have : qh = 0 := by omega
            subst this
            rw [Int.zero_mul] at pe'; omega
          · exact c
        refine ⟨by omega, ⟨(0, 0, g2), ⟨0, rfl, by dsimp only; omega, by simp [vN], fun _ _ => rfl, pw, by dsimp only; omega, by dsimp only; omega⟩, by simp, by simp, by simp, trivial⟩, ?_⟩
        rintro ⟨k, c2, g3⟩ ⟨K, hk, hkn, hg, gout, wg3, hc2⟩
        dsimp only at *
        subst hk
        refine br (fun ck => ?_) fun ck => ?_
        · refine ⟨by omega, fun v96 h96 => ⟨by omega, fun v97 h97 => ?_⟩⟩
          have r97 := hd v96 (by omega) (by omega)
          rw [← h97] at r97
          refine ⟨by omega, fun v98 h98 => ⟨by omega, fun v99 h99 => ?_⟩⟩
          have r99 := wg3 v98 (by omega) (by omega)
          rw [← h99] at r99
          refine ⟨⟨r99, r97, hc2⟩, fun v100 h100 v101 h101 => ⟨by omega, fun v102 h102 => ⟨by omega, fun v103 h103 v104 h104 => ?_⟩⟩⟩
          rw [i64_id (by omega) (by omega)] at h104
          obtain ⟨k1, k2, k3, k4, k5⟩ := addW r99 r97 hc2.1 hc2.2 h100 h101
          have e98 : v98 = (J : Int) + K := by omega
          have e102 : v102 = (J : Int) + K := by omega
          have e96 : v96 = 0 + (K : Int) := by omega
          rw [e102] at h103
          refine ⟨(v104, v101, v103), ⟨K + 1, by dsimp only; omega, by dsimp only; omega, ?_, ?_, ?_, k4, k5⟩, by simp, by dsimp only; omega⟩
          · dsimp only
            rw [h103]
            refine give_next hg (gout _ (by omega)) ?_
            rw [← e98, ← h99, ← e96, ← h97]; omega
          · intro j hj
            dsimp only at hj ⊢
            rw [h103, upd_out (by omega)]
            exact gout j (by omega)
          · rw [h103]; exact upd_W9 wg3 ⟨k2, k3⟩
        · obtain rfl : K = M + 1 := by omega
          refine ⟨by omega, by omega, by omega, fun v108 h108 => ⟨by omega, fun v109 h109 => ?_⟩⟩
          have r109 := wg3 v108 (by omega) (by omega)
          rw [← h109] at r109
          refine ⟨⟨r109, n0, hc2⟩, fun v110 h110 v111 h111 => ⟨by omega, fun v112 h112 => ⟨by omega, fun v113 h113 v114 h114 v115 h115 => ?_⟩⟩⟩
          obtain ⟨k1, k2, k3, k4, k5⟩ := addW r109 n0 hc2.1 hc2.2 h110 h111
          rw [u64_id (by omega) (by omega)] at h114
          rw [u64_id (by omega) (by omega)] at h115
          have e108 : v108 = (J : Int) + ((M + 1 : Nat) : Int) := by omega
          have e112 : v112 = (J : Int) + ((M + 1 : Nat) : Int) := by omega
          rw [e112] at h113
          have ge := give_end (c' := v111) (w := v110) hg (gout _ (by omega)) (by rw [← e108, ← h109]; omega)
          rw [← h113, hD'] at ge
          have hm : vN v113 J (M + 2) - v114 * W1 ^ (M + 2) = vN g2 J (M + 2) + D - 1 * W1 ^ (M + 2) := by
            have : M + 1 + 1 = M + 2 := by omega
            rw [this] at ge
            rw [h114, Int.sub_mul]
            omega
          refine ⟨(v115, v114, v113), ⟨M + 1, rfl, ⟨?_, ?_⟩, ?_, ?_, by dsimp only; omega, by dsimp only; omega, by dsimp only; omega⟩, by simp, ?_⟩
          · show vN v113 J (M + 2) - v114 * W1 ^ (M + 2) + v115 * vN d 0 (M + 1) = vN v85 J (M + 2) - v83 * W1 ^ (M + 2) + v57 * vN d 0 (M + 1)
            have te' : vN v85 J (M + 2) = vN u J (M + 2) - v57 * D + v83 * W1 ^ (M + 2) := te
            rw [hm, te', hD', h115, Int.sub_mul]
            omega
          · show vN v113 J (M + 2) - v114 * W1 ^ (M + 2) < vN d 0 (M + 1)
            rw [hm, hD']; omega
          · intro j hj
            dsimp only
            rw [h113, upd_out (by omega), gout j (by omega)]
            exact po j (by omega)
          · rw [h113]; exact upd_W9 wg3 ⟨k2, k3⟩
          · show (W1 ^ (M + 2) - (vN v113 J (M + 2) - v114 * W1 ^ (M + 2))).toNat < (W1 ^ (M + 2) - (vN g2 J (M + 2) - 1 * W1 ^ (M + 2))).toNat
            rw [hm]
            omega
      · -- the part is told
        have b0 : b = 0 := by omega
        subst b0
        refine ⟨by omega, fun v119 h119 => ⟨by omega, fun v120 h120 v121 h121 => ?_⟩⟩
        rw [i64_id (by omega) (by omega)] at h121
        have e119 : v119 = (J : Int) := by omega
        rw [e119] at h120
        rw [Int.zero_mul] at pe' pl
        refine ⟨(v121, g2, v120, d), ⟨⟨d0, d1, d2, d3⟩, ?_⟩, by simp, by dsimp only; omega⟩
        dsimp only
        rw [h121, h120]
        have pe2 : vN g2 (J : Int) (M + 1 + 1) + qh * vN d 0 (M + 1) = vN u (J : Int) (M + 1 + 1) := by
          rw [hD']
          show vN g2 (J : Int) (M + 2) + qh * D = vN u (J : Int) (M + 2)
          omega
        have pl2 : vN g2 (J : Int) (M + 1 + 1) < vN d 0 (M + 1) := by
          rw [hD']; omega
        exact part_next (N := M + 1) (by omega) wu pw wq hd (by rw [hD']; exact hU) pq (fun j hj => (po j hj).trans (o85 j hj)) pe2 pl2 (by omega)
  · -- all parts are told
    obtain rfl : I = 0 := by omega
    rw [Nat.zero_add, Int.pow_zero, Int.mul_one] at hU
    have hU : vN u 0 N' + vN d 0 N' * vN q 0 8 = _ := hU
    have htop : u N' = 0 := by have := htop (by omega); simpa using this
    have hlt : vN u 0 N' < vN d 0 N' := hlt
    have ub := vN_in (f := u) (o := 0) (n := N') (fun j a b => wu j a (by omega))
    obtain ⟨fq, fr⟩ := divFin (N := val8 lo0 lo1 lo2 lo3 hi0 hi1 hi2 hi3) hM0 hD su (Q := vN q 0 8) (R := vN u 0 N') (by
      rw [Int.mul_comm (vN q 0 8), Int.add_comm (vN d 0 N' * vN q 0 8)]; exact hU.symm) ub.1 hlt
    have hV : val8 lo0 lo1 lo2 lo3 hi0 hi1 hi2 hi3 = val4 hi0 hi1 hi2 hi3 * 115792089237316195423570985008687907853269984665640564039457584007913129639936 + val4 lo0 lo1 lo2 lo3 := by unfold val8; omega
    rw [hV] at fq fr
    refine ⟨⟨(0, fun _ => 0), ⟨⟨by dsimp only; omega, by dsimp only; omega⟩, fun j j0 j1 => by dsimp only; rw [if_neg (by omega)]⟩, by simp, by simp, by simp, by simp, by simp, by simp, by simp, by simp, by simp, by simp, by simp, trivial⟩, ?_⟩
    rintro ⟨k, r⟩ ⟨⟨k0, k1⟩, hr⟩
    dsimp only at *
    simp only [Int.toNat_natCast] at hr
    refine br (fun ck => ?_) fun ck => ?_
    · refine ⟨by omega, fun v132 h132 => ⟨by omega, fun v133 h133 => ?_⟩⟩
      have r133 := wu v132 (by omega) (by omega)
      have r134 := wu (v132 + 1) (by omega) (by omega)
      have e132 : v132 = k := by omega
      rw [e132] at r133 r134 h133
      refine (rStep (a := v133) (b := u (k + 1)) (s := s) (K := fun v141 => (0 ≤ k ∧ k < 4) ∧ ∀ v142, v142 = 0 + k * 1 → (0 ≤ v142 ∧ v142 + 1 ≤ 4) ∧ ∀ (v143 : Int → Int), v143 = updF r v142 v141 → remR u N' (k + 1) (s : Int) v143 ∧ ∀ j, 0 ≤ j → j < 4 → v143 j = v143 j) (by rw [h133]; exact r133) r134 hs63 ?_).imp id ?_
      · refine ⟨by omega, fun v142 h142 => ⟨by omega, fun v143 h143 => ⟨⟨⟨by omega, by omega⟩, fun j j0 j1 => ?_⟩, fun _ _ _ => rfl⟩⟩⟩
        have e142 : v142 = k := by omega
        rw [h143, e142]
        simp only [Int.toNat_natCast]
        unfold updF
        by_cases ej : j = k
        · rw [if_pos ej, if_pos (by omega), ej, h133]; rfl
        · rw [if_neg ej, hr j j0 j1]
          by_cases jk : j < k
          · rw [if_pos jk, if_pos (by omega)]
          · rw [if_neg jk, if_neg (by omega)]
      · intro hS v134 h134 v135 h135
        rw [i64_id (by omega) (by omega)] at h135
        refine ⟨by omega, fun v136 h136 => ⟨by omega, fun v137 h137 v138 h138 v139 h139 => ?_⟩⟩
        have e136 : v136 = k + 1 := by omega
        rw [e136] at h137
        rw [h137] at h138
        obtain ⟨q1, q2⟩ := hS v134 h134 v138 h138 v139 h139
        refine ⟨q1, fun v140 h140 v141 h141 => ?_⟩
        obtain ⟨q3, q4⟩ := q2 v140 h140 v141 h141
        refine ⟨q3, fun v142 h142 => ?_⟩
        obtain ⟨q5, q6⟩ := q4 v142 h142
        refine ⟨q5, fun v143 h143 v144 h144 => ?_⟩
        rw [i64_id (by omega) (by omega)] at h144
        refine ⟨(v144, v143), by rw [h144]; exact (q6 v143 h143).1, by simp, by dsimp only; omega⟩
    · obtain rfl : k = (N' : Int) := by omega
      refine ⟨by omega, ?_⟩
      intro w0 g0 w1 g1 w2 g2 w3 g3 w4 g4 w5 g5 w6 g6 w7 g7
      refine ⟨by omega, ?_⟩
      intro z0 f0 z1 f1 z2 f2 z3 f3
      obtain ⟨er, wr⟩ := rem4 n1 hs63 wu htop fr hr
      have hQ : qF (val4 lo0 lo1 lo2 lo3) (val4 hi0 hi1 hi2 hi3) (val4 m0 m1 m2 m3) = val4 w0 w1 w2 w3 + val4 w4 w5 w6 w7 * 115792089237316195423570985008687907853269984665640564039457584007913129639936 := by
        unfold qF
        rw [if_neg (by omega), ← fq, g0, g1, g2, g3, g4, g5, g6, g7]
        simp only [vN, W1]
        unfold val4
        simp
        omega
      have hR : rF (val4 lo0 lo1 lo2 lo3) (val4 hi0 hi1 hi2 hi3) (val4 m0 m1 m2 m3) = val4 z0 z1 z2 z3 := by
        unfold rF
        rw [if_neg (by omega), er, f0, f1, f2, f3]
      obtain ⟨⟨a0, a1, a2, a3⟩, a4, a5, a6, a7⟩ := halves8 (X := qF (val4 lo0 lo1 lo2 lo3) (val4 hi0 hi1 hi2 hi3) (val4 m0 m1 m2 m3)) (g0 ▸ wq 0 (by omega) (by omega)) (g1 ▸ wq 1 (by omega) (by omega)) (g2 ▸ wq 2 (by omega) (by omega)) (g3 ▸ wq 3 (by omega) (by omega)) (g4 ▸ wq 4 (by omega) (by omega)) (g5 ▸ wq 5 (by omega) (by omega)) (g6 ▸ wq 6 (by omega) (by omega)) (g7 ▸ wq 7 (by omega) (by omega)) hQ
      obtain ⟨c0, c1, c2, c3⟩ := limbs4' (f0 ▸ wr 0 (by omega) (by omega)) (f1 ▸ wr 1 (by omega) (by omega)) (f2 ▸ wr 2 (by omega) (by omega)) (f3 ▸ wr 3 (by omega) (by omega))
      rw [← hR] at c0 c1 c2 c3
      exact ⟨⟨⟨rfl, a0⟩, ⟨rfl, a1⟩, ⟨rfl, a2⟩, ⟨rfl, a3⟩, trivial⟩, ⟨⟨rfl, a4⟩, ⟨rfl, a5⟩, ⟨rfl, a6⟩, ⟨rfl, a7⟩, trivial⟩, ⟨⟨rfl, c0.symm⟩, ⟨rfl, c1.symm⟩, ⟨rfl, c2.symm⟩, ⟨rfl, c3.symm⟩, trivial⟩, ⟨rfl, by rw [if_neg (by omega)]⟩, trivial⟩
theorem div_ok : SpecOk Tryd.prog 8 divSpec := div_okP fun lo0 lo1 lo2 lo3 hi0 hi1 hi2 hi3 m0 m1 m2 m3 h => pureDiv lo0 lo1 lo2 lo3 hi0 hi1 hi2 hi3 m0 m1 m2 m3 h
end Go.Proofs.YtaaobpalpcdlbaaDoor.Bits
