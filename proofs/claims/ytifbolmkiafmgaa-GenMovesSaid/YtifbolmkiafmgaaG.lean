import Derived.Test.YtifbolmkiafmgaaSxR
import Derived.Test.YtifbolmkiafmgaaSxU
import Derived.Test.YtifbolmkiafmgaaProg
import Derived.Test.YtifbolmkiafmgaaE
import Derived.KernelRfl
namespace Go.Proofs.Ytifbolmkiafmgaa.A
open Go Go.Sx Go.RowKit
set_option linter.unusedVariables false
set_option maxRecDepth 100000
def hoQ (n j : Int) : Int := (j - n) % (5 * n + 1)
def hoR (n j : Int) : Int := (j - n) / (5 * n + 1)
def hoK (n : Int) : Int → Int := fun j => if j < n then 2 else if hoQ n j = 5 * n then 1 else if hoQ n j % 5 = 0 then 3 else if hoQ n j % 5 = 2 then 4 else if hoQ n j % 5 = 4 then 5 else 1
def hoB (n : Int) : Int → Int := fun j => if j < n then j else if hoQ n j = 5 * n ∨ hoQ n j % 5 = 1 ∨ hoQ n j % 5 = 3 then 0 else hoQ n j / 5
def hoP (n : Int) : Int → Int := fun j => if j < n ∨ hoQ n j = 5 * n then 0 else if hoQ n j % 5 = 2 then 2 * (hoR n j * n + hoQ n j / 5) else if hoQ n j % 5 = 4 then 2 * (hoR n j * n + hoQ n j / 5) + 1 else 0
def hoV (n w : Int) : Int → Int := fun j => if j < n then 0 else if hoQ n j = 5 * n then 274877906944 else if hoQ n j % 5 = 1 ∨ hoQ n j % 5 = 3 then w else 0
def hoZ : Int → Int := fun _ => 0
def hoT : Int → ByteArray := fun _ => bytesL []
def hoS (n : Int) : Int := if n < 1 then 1 else if n < 3 then n else 3
def hoD (n : Int) : Int := if n < 0 then 0 else if n < 4 then n else 4
def hoW (n : Int) : Int := if n < 0 then 0 else if n < 4294967296 then n else 4294967296
def hoN (n r : Int) : Int := n + r * (5 * n + 1)
def hoA (n w N : Int) (k a b p v : Int → Int) (t : Int → ByteArray) (o : Int → Int) : Prop := ∀ j, 0 ≤ j → j < N → k j = hoK n j ∧ a j = 0 ∧ b j = hoB n j ∧ p j = hoP n j ∧ v j = hoV n w j ∧ t j = bytesL [] ∧ o j = 0
def ho0ASpec : St → Inv := fun S =>
  { ι := Int × Int × (Int → Int) × (Int → Int) × (Int → Int) × (Int → Int) × (Int → Int) × (Int → ByteArray) × (Int → Int)
    T := fun q => stS (keepS (setF S (slBSpec S 7) q.2.1 [.int .i64 q.2.2.1, .int .i64 q.2.2.2.1, .int .i64 q.2.2.2.2.1, .int .i64 q.2.2.2.2.2.1, .int .i64 q.2.2.2.2.2.2.1, .str q.2.2.2.2.2.2.2.1, .int .i64 q.2.2.2.2.2.2.2.2]) [0, 1, 2, 22]) [(7, .fsl (slBSpec S 7) q.2.1 (slCapSpec S 7)), (23, .int .i64 (.sym q.1))]
    R := fun q => ((1 ≤ q.1 ∧ q.1 ≤ iat S 0) ∧ q.2.1 = q.1) ∧ hoA (iat S 0) (iat S 2) q.2.1 q.2.2.1 q.2.2.2.1 q.2.2.2.2.1 q.2.2.2.2.2.1 q.2.2.2.2.2.2.1 q.2.2.2.2.2.2.2.1 q.2.2.2.2.2.2.2.2
    μ := fun q => (3 - q.1).toNat }
def ho2ASpec : St → Inv := fun S =>
  { ι := Int × Int × (Int → Int) × (Int → Int) × (Int → Int) × (Int → Int) × (Int → Int) × (Int → ByteArray) × (Int → Int)
    T := fun q => stS (keepS (setF S (slBSpec S 7) q.2.1 [.int .i64 q.2.2.1, .int .i64 q.2.2.2.1, .int .i64 q.2.2.2.2.1, .int .i64 q.2.2.2.2.2.1, .int .i64 q.2.2.2.2.2.2.1, .str q.2.2.2.2.2.2.2.1, .int .i64 q.2.2.2.2.2.2.2.2]) [0, 1, 2, 9, 34]) [(7, .fsl (slBSpec S 7) q.2.1 (slCapSpec S 7)), (35, .int .i64 (.sym q.1))]
    R := fun q => ((0 ≤ q.1 ∧ q.1 ≤ iat S 1) ∧ q.2.1 = hoN (iat S 0) q.1) ∧ hoA (iat S 0) (iat S 2) q.2.1 q.2.2.1 q.2.2.2.1 q.2.2.2.2.1 q.2.2.2.2.2.1 q.2.2.2.2.2.2.1 q.2.2.2.2.2.2.2.1 q.2.2.2.2.2.2.2.2
    μ := fun q => (4 - q.1).toNat }
def ho4ASpec : St → Inv := fun S =>
  { ι := Int × Int × (Int → Int) × (Int → Int) × (Int → Int) × (Int → Int) × (Int → Int) × (Int → ByteArray) × (Int → Int)
    T := fun q => stS (keepS (setF S (slBSpec S 7) q.2.1 [.int .i64 q.2.2.1, .int .i64 q.2.2.2.1, .int .i64 q.2.2.2.2.1, .int .i64 q.2.2.2.2.2.1, .int .i64 q.2.2.2.2.2.2.1, .str q.2.2.2.2.2.2.2.1, .int .i64 q.2.2.2.2.2.2.2.2]) [0, 1, 2, 9, 10, 34, 35, 38]) [(7, .fsl (slBSpec S 7) q.2.1 (slCapSpec S 7)), (39, .int .i64 (.sym q.1))]
    R := fun q => ((0 ≤ q.1 ∧ q.1 ≤ iat S 0) ∧ q.2.1 = hoN (iat S 0) (iat S 10) + 5 * q.1) ∧ hoA (iat S 0) (iat S 2) q.2.1 q.2.2.1 q.2.2.2.1 q.2.2.2.2.1 q.2.2.2.2.2.1 q.2.2.2.2.2.2.1 q.2.2.2.2.2.2.2.1 q.2.2.2.2.2.2.2.2
    μ := fun q => (3 - q.1).toNat }
def rho0ASpec : St → Inv := fun S =>
  { ι := Int × Int × (Int → Int) × (Int → Int) × (Int → Int) × (Int → Int) × (Int → Int) × (Int → ByteArray) × (Int → Int)
    T := fun q => stS (keepS (setF S (slBSpec S 7) q.2.1 [.int .i64 q.2.2.1, .int .i64 q.2.2.2.1, .int .i64 q.2.2.2.2.1, .int .i64 q.2.2.2.2.2.1, .int .i64 q.2.2.2.2.2.2.1, .str q.2.2.2.2.2.2.2.1, .int .i64 q.2.2.2.2.2.2.2.2]) [0, 1, 2]) [(7, .fsl (slBSpec S 7) q.2.1 (slCapSpec S 7)), (8, .int .i64 (.sym q.1))]
    R := fun q => ((1 ≤ q.1 ∧ q.1 ≤ iat S 0) ∧ q.2.1 = q.1) ∧ hoA (iat S 0) (iat S 2) q.2.1 q.2.2.1 q.2.2.2.1 q.2.2.2.2.1 q.2.2.2.2.2.1 q.2.2.2.2.2.2.1 q.2.2.2.2.2.2.2.1 q.2.2.2.2.2.2.2.2
    μ := fun q => (3 - q.1).toNat }
def rho2ASpec : St → Inv := fun S =>
  { ι := Int × Int × (Int → Int) × (Int → Int) × (Int → Int) × (Int → Int) × (Int → Int) × (Int → ByteArray) × (Int → Int)
    T := fun q => stS (keepS (setF S (slBSpec S 7) q.2.1 [.int .i64 q.2.2.1, .int .i64 q.2.2.2.1, .int .i64 q.2.2.2.2.1, .int .i64 q.2.2.2.2.2.1, .int .i64 q.2.2.2.2.2.2.1, .str q.2.2.2.2.2.2.2.1, .int .i64 q.2.2.2.2.2.2.2.2]) [0, 1, 2]) [(7, .fsl (slBSpec S 7) q.2.1 (slCapSpec S 7)), (10, .int .i64 (.sym q.1)), (9, .int .i64 (.sym (2 * (q.1 * iat S 0))))]
    R := fun q => ((0 ≤ q.1 ∧ q.1 ≤ iat S 1) ∧ q.2.1 = hoN (iat S 0) q.1) ∧ hoA (iat S 0) (iat S 2) q.2.1 q.2.2.1 q.2.2.2.1 q.2.2.2.2.1 q.2.2.2.2.2.1 q.2.2.2.2.2.2.1 q.2.2.2.2.2.2.2.1 q.2.2.2.2.2.2.2.2
    μ := fun q => (4 - q.1).toNat }
def rho4ASpec : St → Inv := fun S =>
  { ι := Int × Int × (Int → Int) × (Int → Int) × (Int → Int) × (Int → Int) × (Int → Int) × (Int → ByteArray) × (Int → Int)
    T := fun q => stS (keepS (setF S (slBSpec S 7) q.2.1 [.int .i64 q.2.2.1, .int .i64 q.2.2.2.1, .int .i64 q.2.2.2.2.1, .int .i64 q.2.2.2.2.2.1, .int .i64 q.2.2.2.2.2.2.1, .str q.2.2.2.2.2.2.2.1, .int .i64 q.2.2.2.2.2.2.2.2]) [0, 1, 2, 10]) [(7, .fsl (slBSpec S 7) q.2.1 (slCapSpec S 7)), (11, .int .i64 (.sym q.1)), (9, .int .i64 (.sym (2 * (iat S 10 * iat S 0 + q.1))))]
    R := fun q => ((0 ≤ q.1 ∧ q.1 ≤ iat S 0) ∧ q.2.1 = hoN (iat S 0) (iat S 10) + 5 * q.1) ∧ hoA (iat S 0) (iat S 2) q.2.1 q.2.2.1 q.2.2.2.1 q.2.2.2.2.1 q.2.2.2.2.2.1 q.2.2.2.2.2.2.1 q.2.2.2.2.2.2.2.1 q.2.2.2.2.2.2.2.2
    μ := fun q => (3 - q.1).toNat }
def hoAnnSpec : Anns := [(15, 0, ho0ASpec), (15, 2, ho2ASpec), (15, 4, ho4ASpec), (16, 0, rho0ASpec), (16, 2, rho2ASpec), (16, 4, rho4ASpec)]
def hoPeelSpec : List (FuncId × Nat) := [(15, 0), (16, 0)]
--@PLAIN
theorem hoA_up {n w N M : Int} {k a b p v o : Int → Int} {t : Int → ByteArray} {k' a' b' p' v' o' : Int} {t' : ByteArray} (hA : hoA n w N k a b p v t o) (hM : M = N + 1) (q : k' = hoK n N ∧ b' = hoB n N ∧ p' = hoP n N ∧ v' = hoV n w N) (ha : a' = 0) (ht : t' = bytesL []) (ho : o' = 0) :
    hoA n w M (updF k N k') (updF a N a') (updF b N b') (updF p N p') (updF v N v') (updF t N t') (updF o N o') := by
  subst hM
  refine fun j j0 j1 => ⟨?_, ?_, ?_, ?_, ?_, ?_, ?_⟩
  · exact upd_ok (F := hoK n) (fun j x y => (hA j x y).1) q.1 j j0 j1
  · exact upd_ok (F := fun _ => 0) (fun j x y => (hA j x y).2.1) ha j j0 j1
  · exact upd_ok (F := hoB n) (fun j x y => (hA j x y).2.2.1) q.2.1 j j0 j1
  · exact upd_ok (F := hoP n) (fun j x y => (hA j x y).2.2.2.1) q.2.2.1 j j0 j1
  · exact upd_ok (F := hoV n w) (fun j x y => (hA j x y).2.2.2.2.1) q.2.2.2 j j0 j1
  · exact upd_ok (F := fun _ => bytesL []) (fun j x y => (hA j x y).2.2.2.2.2.1) ht j j0 j1
  · exact upd_ok (F := fun _ => 0) (fun j x y => (hA j x y).2.2.2.2.2.2) ho j j0 j1
theorem hoQR {n r x M : Int} (hn : 1 ≤ n) (h0 : 0 ≤ x) (h1 : x ≤ 5 * n) (hr : 0 ≤ r) (hM : M = hoN n r + x) : hoQ n M = x ∧ hoR n M = r ∧ ¬ M < n := by
  unfold hoQ hoR
  unfold hoN at hM
  have e : M - n = x + r * (5 * n + 1) := by omega
  have g : 0 ≤ r * (5 * n + 1) := Int.mul_nonneg hr (by omega)
  refine ⟨?_, ?_, by omega⟩
  · rw [e, Int.add_mul_emod_self_right, Int.emod_eq_of_lt h0 (by omega)]
  · rw [e, Int.add_mul_ediv_right _ _ (by omega), Int.ediv_eq_zero_of_lt h0 (by omega), Int.zero_add]
theorem ho_n {n w M : Int} (h : M < n) : 2 = hoK n M ∧ M = hoB n M ∧ 0 = hoP n M ∧ 0 = hoV n w M := by
  unfold hoK hoB hoP hoV
  rw [if_pos h, if_pos h, if_pos (Or.inl h), if_pos h]
  exact ⟨rfl, rfl, rfl, rfl⟩
theorem ho_0 {n w r b M : Int} (g : 1 ≤ n ∧ 0 ≤ r ∧ 0 ≤ b ∧ b < n) (hM : M = hoN n r + (5 * b + 0)) : 3 = hoK n M ∧ b = hoB n M ∧ 0 = hoP n M ∧ 0 = hoV n w M := by
  obtain ⟨q1, q2, q3⟩ := hoQR g.1 (by omega) (by omega) g.2.1 hM
  unfold hoK hoB hoP hoV
  rw [q1, q2]
  refine ⟨?_, ?_, ?_, ?_⟩
  · repeat' split
    all_goals omega
  · repeat' split
    all_goals omega
  · repeat' split
    all_goals omega
  · repeat' split
    all_goals omega
theorem ho_1 {n w r b M : Int} (g : 1 ≤ n ∧ 0 ≤ r ∧ 0 ≤ b ∧ b < n) (hM : M = hoN n r + (5 * b + 1)) : 1 = hoK n M ∧ 0 = hoB n M ∧ 0 = hoP n M ∧ w = hoV n w M := by
  obtain ⟨q1, q2, q3⟩ := hoQR g.1 (by omega) (by omega) g.2.1 hM
  unfold hoK hoB hoP hoV
  rw [q1, q2]
  refine ⟨?_, ?_, ?_, ?_⟩
  · repeat' split
    all_goals omega
  · repeat' split
    all_goals omega
  · repeat' split
    all_goals omega
  · repeat' split
    all_goals omega
theorem ho_2 {n w r b M : Int} (g : 1 ≤ n ∧ 0 ≤ r ∧ 0 ≤ b ∧ b < n) (hM : M = hoN n r + (5 * b + 2)) : 4 = hoK n M ∧ b = hoB n M ∧ 2 * (r * n + b) = hoP n M ∧ 0 = hoV n w M := by
  obtain ⟨q1, q2, q3⟩ := hoQR g.1 (by omega) (by omega) g.2.1 hM
  unfold hoK hoB hoP hoV
  rw [q1, q2]
  refine ⟨?_, ?_, ?_, ?_⟩
  · repeat' split
    all_goals omega
  · repeat' split
    all_goals omega
  · repeat' split
    all_goals omega
  · repeat' split
    all_goals omega
theorem ho_3 {n w r b M : Int} (g : 1 ≤ n ∧ 0 ≤ r ∧ 0 ≤ b ∧ b < n) (hM : M = hoN n r + (5 * b + 3)) : 1 = hoK n M ∧ 0 = hoB n M ∧ 0 = hoP n M ∧ w = hoV n w M := by
  obtain ⟨q1, q2, q3⟩ := hoQR g.1 (by omega) (by omega) g.2.1 hM
  unfold hoK hoB hoP hoV
  rw [q1, q2]
  refine ⟨?_, ?_, ?_, ?_⟩
  · repeat' split
    all_goals omega
  · repeat' split
    all_goals omega
  · repeat' split
    all_goals omega
  · repeat' split
    all_goals omega
theorem ho_4 {n w r b M : Int} (g : 1 ≤ n ∧ 0 ≤ r ∧ 0 ≤ b ∧ b < n) (hM : M = hoN n r + (5 * b + 4)) : 5 = hoK n M ∧ b = hoB n M ∧ 2 * (r * n + b) + 1 = hoP n M ∧ 0 = hoV n w M := by
  obtain ⟨q1, q2, q3⟩ := hoQR g.1 (by omega) (by omega) g.2.1 hM
  unfold hoK hoB hoP hoV
  rw [q1, q2]
  refine ⟨?_, ?_, ?_, ?_⟩
  · repeat' split
    all_goals omega
  · repeat' split
    all_goals omega
  · repeat' split
    all_goals omega
  · repeat' split
    all_goals omega
theorem ho_5 {n w r M : Int} (g : 1 ≤ n ∧ 0 ≤ r) (hM : M = hoN n r + (5 * n)) : 1 = hoK n M ∧ 0 = hoB n M ∧ 0 = hoP n M ∧ 274877906944 = hoV n w M := by
  obtain ⟨q1, q2, q3⟩ := hoQR g.1 (by omega) (by omega) g.2 hM
  unfold hoK hoB hoP hoV
  rw [q1, q2]
  refine ⟨?_, ?_, ?_, ?_⟩
  · repeat' split
    all_goals omega
  · repeat' split
    all_goals omega
  · repeat' split
    all_goals omega
  · repeat' split
    all_goals omega
theorem ho_first (n w : Int) (h : 1 ≤ n) : hoA n w 1 (fun _ => 2) (fun _ => 0) (fun _ => 0) (fun _ => 0) (fun _ => 0) (fun _ => bytesL []) (fun _ => 0) := by
  intro j j0 j1
  obtain rfl : j = 0 := by omega
  have q := ho_n (w := w) (show (0 : Int) < n by omega)
  exact ⟨q.1, rfl, q.2.1, q.2.2.1, q.2.2.2, rfl, rfl⟩
theorem hoN_in {n r : Int} (h : 1 ≤ n ∧ n ≤ 3) (h2 : 0 ≤ r ∧ r ≤ 4) : n ≤ hoN n r ∧ hoN n r ≤ 70 ∧ 0 ≤ r * n ∧ r * n ≤ 12 := by
  unfold hoN
  have a := Int.mul_nonneg h2.1 (show 0 ≤ 5 * n + 1 by omega)
  have b := Int.mul_le_mul h2.2 (show 5 * n + 1 ≤ 16 by omega) (by omega) (by omega)
  have c := Int.mul_nonneg h2.1 (show 0 ≤ n by omega)
  have d := Int.mul_le_mul h2.2 h.2 (by omega) (by omega)
  omega
theorem hoN_up (n r : Int) : hoN n (r + 1) = hoN n r + 5 * n + 1 := by
  unfold hoN
  rw [Int.add_mul]
  omega
theorem mul_up (r n : Int) : (r + 1) * n = r * n + n := by rw [Int.add_mul, Int.one_mul]
def honestSpec : RSpec := fun args k => match args, k with
  | [.int .i64 s, .int .i64 r, .int .i64 w], k => ((I64 s.val) ∧ (I64 r.val) ∧ (I64 w.val)) ∧ (∀ n0_ : Int, n0_ = (hoN (hoS s.val) (hoD r.val)) → ∀ g1_ : Int → Int, g1_ = (hoK (hoS s.val)) → ∀ g2_ : Int → Int, g2_ = (hoZ) → ∀ g3_ : Int → Int, g3_ = (hoB (hoS s.val)) → ∀ g4_ : Int → Int, g4_ = (hoP (hoS s.val)) → ∀ g5_ : Int → Int, g5_ = (hoV (hoS s.val) (hoW w.val)) → ∀ g6_ : Int → ByteArray, g6_ = (hoT) → ∀ g7_ : Int → Int, g7_ = (hoZ) → k [.s n0_ [.int .i64 g1_, .int .i64 g2_, .int .i64 g3_, .int .i64 g4_, .int .i64 g5_, .str g6_, .int .i64 g7_] 36])
  | _, _ => False
def VCHonest (s : Int) (r : Int) (w : Int) : Prop :=
  ∀ (v1 : Int), (v1 = if (3 : Int) < s then (3 : Int) else s) -> ∀ (v2 : Int), (v2 = if v1 > (1 : Int) then v1 else (1 : Int)) -> ∀ (v3 : Int), (v3 = if (4 : Int) < r then (4 : Int) else r) -> ∀ (v4 : Int), (v4 = if v3 > (0 : Int) then v3 else (0 : Int)) -> ∀ (v5 : Int), (v5 = if (4294967296 : Int) < w then (4294967296 : Int) else w) -> ∀ (v6 : Int), (v6 = if v5 > (0 : Int) then v5 else (0 : Int)) -> ∀ v7, v7 = decide ((0 : Int) < v2) -> (v7 = true -> (∃ (x8 : Int × Int × (Int -> Int) × (Int -> Int) × (Int -> Int) × (Int -> Int) × (Int -> Int) × (Int -> ByteArray) × (Int -> Int)), ((((1 : Int) ≤ x8.fst /\ x8.fst ≤ v2) /\ x8.snd.fst = x8.fst) /\ hoA v2 v6 x8.snd.fst x8.snd.snd.fst x8.snd.snd.snd.fst x8.snd.snd.snd.snd.fst x8.snd.snd.snd.snd.snd.fst x8.snd.snd.snd.snd.snd.snd.fst x8.snd.snd.snd.snd.snd.snd.snd.fst x8.snd.snd.snd.snd.snd.snd.snd.snd) /\ (v2 = v2 /\ v4 = v4 /\ v6 = v6 /\ ((1 : Int) = x8.snd.fst /\ True) /\ v2 = v2 /\ (1 : Int) = x8.fst /\ True) /\ ((2 : Int) = (2 : Int) /\ (0 : Int) = (0 : Int) /\ (0 : Int) = (0 : Int) /\ (0 : Int) = (0 : Int) /\ (0 : Int) = (0 : Int) /\ bytesL [] = bytesL [] /\ (0 : Int) = (0 : Int) /\ True) /\ (x8.snd.fst * (7 : Int) = (7 : Int) /\ (2 : Int) = x8.snd.snd.fst (0 : Int) /\ (0 : Int) = x8.snd.snd.snd.fst (0 : Int) /\ (0 : Int) = x8.snd.snd.snd.snd.fst (0 : Int) /\ (0 : Int) = x8.snd.snd.snd.snd.snd.fst (0 : Int) /\ (0 : Int) = x8.snd.snd.snd.snd.snd.snd.fst (0 : Int) /\ bytesL [] = x8.snd.snd.snd.snd.snd.snd.snd.fst (0 : Int) /\ (0 : Int) = x8.snd.snd.snd.snd.snd.snd.snd.snd (0 : Int) /\ True) /\ True) /\ ∀ (v9 : Int × Int × (Int -> Int) × (Int -> Int) × (Int -> Int) × (Int -> Int) × (Int -> Int) × (Int -> ByteArray) × (Int -> Int)), (((1 : Int) ≤ v9.fst /\ v9.fst ≤ v2) /\ v9.snd.fst = v9.fst) /\ hoA v2 v6 v9.snd.fst v9.snd.snd.fst v9.snd.snd.snd.fst v9.snd.snd.snd.snd.fst v9.snd.snd.snd.snd.snd.fst v9.snd.snd.snd.snd.snd.snd.fst v9.snd.snd.snd.snd.snd.snd.snd.fst v9.snd.snd.snd.snd.snd.snd.snd.snd -> ∀ v10, v10 = decide (v9.fst < v2) -> (v10 = true -> (v9.snd.fst = v9.snd.fst /\ (v9.snd.fst + (1 : Int)) * (64 : Int) ≤ (140737488355328 : Int) /\ v9.snd.fst + (1 : Int) ≤ (140737488355328 : Int)) /\ ∀ (v11 : Int -> Int), v11 = updF v9.snd.snd.fst v9.snd.fst (2 : Int) -> ∀ (v12 : Int -> Int), v12 = updF v9.snd.snd.snd.fst v9.snd.fst (0 : Int) -> ∀ (v13 : Int -> Int), v13 = updF v9.snd.snd.snd.snd.fst v9.snd.fst v9.fst -> ∀ (v14 : Int -> Int), v14 = updF v9.snd.snd.snd.snd.snd.fst v9.snd.fst (0 : Int) -> ∀ (v15 : Int -> Int), v15 = updF v9.snd.snd.snd.snd.snd.snd.fst v9.snd.fst (0 : Int) -> ∀ (v16 : Int -> ByteArray), v16 = updF v9.snd.snd.snd.snd.snd.snd.snd.fst v9.snd.fst (bytesL []) -> ∀ (v17 : Int -> Int), v17 = updF v9.snd.snd.snd.snd.snd.snd.snd.snd v9.snd.fst (0 : Int) -> ∀ v18, v18 = v9.snd.fst + (1 : Int) -> ∀ v19, v19 = IntKind.i64.wrap (v9.fst + (1 : Int)) -> ∃ (x20 : Int × Int × (Int -> Int) × (Int -> Int) × (Int -> Int) × (Int -> Int) × (Int -> Int) × (Int -> ByteArray) × (Int -> Int)), ((((1 : Int) ≤ x20.fst /\ x20.fst ≤ v2) /\ x20.snd.fst = x20.fst) /\ hoA v2 v6 x20.snd.fst x20.snd.snd.fst x20.snd.snd.snd.fst x20.snd.snd.snd.snd.fst x20.snd.snd.snd.snd.snd.fst x20.snd.snd.snd.snd.snd.snd.fst x20.snd.snd.snd.snd.snd.snd.snd.fst x20.snd.snd.snd.snd.snd.snd.snd.snd) /\ ((v2 = v2 /\ v4 = v4 /\ v6 = v6 /\ (v18 = x20.snd.fst /\ True) /\ v2 = v2 /\ v19 = x20.fst /\ True) /\ ((2 : Int) = (2 : Int) /\ (0 : Int) = (0 : Int) /\ (0 : Int) = (0 : Int) /\ (0 : Int) = (0 : Int) /\ (0 : Int) = (0 : Int) /\ bytesL [] = bytesL [] /\ (0 : Int) = (0 : Int) /\ True) /\ (v18 = x20.snd.fst /\ (∀ (v21 : Int), (0 : Int) ≤ v21 -> v21 < x20.snd.fst -> v11 v21 = x20.snd.snd.fst v21) /\ (∀ (v22 : Int), (0 : Int) ≤ v22 -> v22 < x20.snd.fst -> v12 v22 = x20.snd.snd.snd.fst v22) /\ (∀ (v23 : Int), (0 : Int) ≤ v23 -> v23 < x20.snd.fst -> v13 v23 = x20.snd.snd.snd.snd.fst v23) /\ (∀ (v24 : Int), (0 : Int) ≤ v24 -> v24 < x20.snd.fst -> v14 v24 = x20.snd.snd.snd.snd.snd.fst v24) /\ (∀ (v25 : Int), (0 : Int) ≤ v25 -> v25 < x20.snd.fst -> v15 v25 = x20.snd.snd.snd.snd.snd.snd.fst v25) /\ (∀ (v26 : Int), (0 : Int) ≤ v26 -> v26 < x20.snd.fst -> v16 v26 = x20.snd.snd.snd.snd.snd.snd.snd.fst v26) /\ (∀ (v27 : Int), (0 : Int) ≤ v27 -> v27 < x20.snd.fst -> v17 v27 = x20.snd.snd.snd.snd.snd.snd.snd.snd v27) /\ True) /\ True) /\ ((3 : Int) - x20.fst).toNat < ((3 : Int) - v9.fst).toNat) /\ (v10 = false -> (∃ (x28 : Int × Int × (Int -> Int) × (Int -> Int) × (Int -> Int) × (Int -> Int) × (Int -> Int) × (Int -> ByteArray) × (Int -> Int)), ((((0 : Int) ≤ x28.fst /\ x28.fst ≤ v4) /\ x28.snd.fst = hoN v2 x28.fst) /\ hoA v2 v6 x28.snd.fst x28.snd.snd.fst x28.snd.snd.snd.fst x28.snd.snd.snd.snd.fst x28.snd.snd.snd.snd.snd.fst x28.snd.snd.snd.snd.snd.snd.fst x28.snd.snd.snd.snd.snd.snd.snd.fst x28.snd.snd.snd.snd.snd.snd.snd.snd) /\ (v2 = v2 /\ v4 = v4 /\ v6 = v6 /\ (v9.snd.fst = x28.snd.fst /\ True) /\ True /\ v4 = v4 /\ (0 : Int) = x28.fst /\ True) /\ ((2 : Int) = (2 : Int) /\ (0 : Int) = (0 : Int) /\ (0 : Int) = (0 : Int) /\ (0 : Int) = (0 : Int) /\ (0 : Int) = (0 : Int) /\ bytesL [] = bytesL [] /\ (0 : Int) = (0 : Int) /\ True) /\ (v9.snd.fst = x28.snd.fst /\ (∀ (v29 : Int), (0 : Int) ≤ v29 -> v29 < x28.snd.fst -> v9.snd.snd.fst v29 = x28.snd.snd.fst v29) /\ (∀ (v30 : Int), (0 : Int) ≤ v30 -> v30 < x28.snd.fst -> v9.snd.snd.snd.fst v30 = x28.snd.snd.snd.fst v30) /\ (∀ (v31 : Int), (0 : Int) ≤ v31 -> v31 < x28.snd.fst -> v9.snd.snd.snd.snd.fst v31 = x28.snd.snd.snd.snd.fst v31) /\ (∀ (v32 : Int), (0 : Int) ≤ v32 -> v32 < x28.snd.fst -> v9.snd.snd.snd.snd.snd.fst v32 = x28.snd.snd.snd.snd.snd.fst v32) /\ (∀ (v33 : Int), (0 : Int) ≤ v33 -> v33 < x28.snd.fst -> v9.snd.snd.snd.snd.snd.snd.fst v33 = x28.snd.snd.snd.snd.snd.snd.fst v33) /\ (∀ (v34 : Int), (0 : Int) ≤ v34 -> v34 < x28.snd.fst -> v9.snd.snd.snd.snd.snd.snd.snd.fst v34 = x28.snd.snd.snd.snd.snd.snd.snd.fst v34) /\ (∀ (v35 : Int), (0 : Int) ≤ v35 -> v35 < x28.snd.fst -> v9.snd.snd.snd.snd.snd.snd.snd.snd v35 = x28.snd.snd.snd.snd.snd.snd.snd.snd v35) /\ True) /\ ((1 : Int) = (1 : Int) /\ (0 : Int) = (0 : Int) /\ (0 : Int) = (0 : Int) /\ (0 : Int) = (0 : Int) /\ v6 = v6 /\ bytesL [] = bytesL [] /\ (0 : Int) = (0 : Int) /\ True) /\ True) /\ ∀ (v36 : Int × Int × (Int -> Int) × (Int -> Int) × (Int -> Int) × (Int -> Int) × (Int -> Int) × (Int -> ByteArray) × (Int -> Int)), (((0 : Int) ≤ v36.fst /\ v36.fst ≤ v4) /\ v36.snd.fst = hoN v2 v36.fst) /\ hoA v2 v6 v36.snd.fst v36.snd.snd.fst v36.snd.snd.snd.fst v36.snd.snd.snd.snd.fst v36.snd.snd.snd.snd.snd.fst v36.snd.snd.snd.snd.snd.snd.fst v36.snd.snd.snd.snd.snd.snd.snd.fst v36.snd.snd.snd.snd.snd.snd.snd.snd -> ∀ v37, v37 = decide (v36.fst < v4) -> (v37 = true -> (∃ (x38 : Int × Int × (Int -> Int) × (Int -> Int) × (Int -> Int) × (Int -> Int) × (Int -> Int) × (Int -> ByteArray) × (Int -> Int)), ((((0 : Int) ≤ x38.fst /\ x38.fst ≤ v2) /\ x38.snd.fst = hoN v2 v36.fst + (5 : Int) * x38.fst) /\ hoA v2 v6 x38.snd.fst x38.snd.snd.fst x38.snd.snd.snd.fst x38.snd.snd.snd.snd.fst x38.snd.snd.snd.snd.snd.fst x38.snd.snd.snd.snd.snd.snd.fst x38.snd.snd.snd.snd.snd.snd.snd.fst x38.snd.snd.snd.snd.snd.snd.snd.snd) /\ (v2 = v2 /\ v4 = v4 /\ v6 = v6 /\ (v36.snd.fst = x38.snd.fst /\ True) /\ True /\ v36.fst = v36.fst /\ v4 = v4 /\ v36.fst = v36.fst /\ v2 = v2 /\ (0 : Int) = x38.fst /\ True) /\ ((2 : Int) = (2 : Int) /\ (0 : Int) = (0 : Int) /\ (0 : Int) = (0 : Int) /\ (0 : Int) = (0 : Int) /\ (0 : Int) = (0 : Int) /\ bytesL [] = bytesL [] /\ (0 : Int) = (0 : Int) /\ True) /\ (v36.snd.fst = x38.snd.fst /\ (∀ (v39 : Int), (0 : Int) ≤ v39 -> v39 < x38.snd.fst -> v36.snd.snd.fst v39 = x38.snd.snd.fst v39) /\ (∀ (v40 : Int), (0 : Int) ≤ v40 -> v40 < x38.snd.fst -> v36.snd.snd.snd.fst v40 = x38.snd.snd.snd.fst v40) /\ (∀ (v41 : Int), (0 : Int) ≤ v41 -> v41 < x38.snd.fst -> v36.snd.snd.snd.snd.fst v41 = x38.snd.snd.snd.snd.fst v41) /\ (∀ (v42 : Int), (0 : Int) ≤ v42 -> v42 < x38.snd.fst -> v36.snd.snd.snd.snd.snd.fst v42 = x38.snd.snd.snd.snd.snd.fst v42) /\ (∀ (v43 : Int), (0 : Int) ≤ v43 -> v43 < x38.snd.fst -> v36.snd.snd.snd.snd.snd.snd.fst v43 = x38.snd.snd.snd.snd.snd.snd.fst v43) /\ (∀ (v44 : Int), (0 : Int) ≤ v44 -> v44 < x38.snd.fst -> v36.snd.snd.snd.snd.snd.snd.snd.fst v44 = x38.snd.snd.snd.snd.snd.snd.snd.fst v44) /\ (∀ (v45 : Int), (0 : Int) ≤ v45 -> v45 < x38.snd.fst -> v36.snd.snd.snd.snd.snd.snd.snd.snd v45 = x38.snd.snd.snd.snd.snd.snd.snd.snd v45) /\ True) /\ ((1 : Int) = (1 : Int) /\ (0 : Int) = (0 : Int) /\ (0 : Int) = (0 : Int) /\ (0 : Int) = (0 : Int) /\ v6 = v6 /\ bytesL [] = bytesL [] /\ (0 : Int) = (0 : Int) /\ True) /\ True) /\ ∀ (v46 : Int × Int × (Int -> Int) × (Int -> Int) × (Int -> Int) × (Int -> Int) × (Int -> Int) × (Int -> ByteArray) × (Int -> Int)), (((0 : Int) ≤ v46.fst /\ v46.fst ≤ v2) /\ v46.snd.fst = hoN v2 v36.fst + (5 : Int) * v46.fst) /\ hoA v2 v6 v46.snd.fst v46.snd.snd.fst v46.snd.snd.snd.fst v46.snd.snd.snd.snd.fst v46.snd.snd.snd.snd.snd.fst v46.snd.snd.snd.snd.snd.snd.fst v46.snd.snd.snd.snd.snd.snd.snd.fst v46.snd.snd.snd.snd.snd.snd.snd.snd -> ∀ v47, v47 = decide (v46.fst < v2) -> (v47 = true -> ∀ v48, v48 = IntKind.i64.wrap (v36.fst * v2) -> ∀ v49, v49 = IntKind.i64.wrap (v48 + v46.fst) -> ∀ v50, v50 = IntKind.i64.wrap ((2 : Int) * v49) -> ∀ v51, v51 = IntKind.i64.wrap (v50 + (1 : Int)) -> (v46.snd.fst = v46.snd.fst /\ (v46.snd.fst + (5 : Int)) * (64 : Int) ≤ (140737488355328 : Int) /\ v46.snd.fst + (5 : Int) ≤ (140737488355328 : Int)) /\ ∀ (v52 : Int -> Int), v52 = updF v46.snd.snd.fst v46.snd.fst (3 : Int) -> ∀ (v53 : Int -> Int), v53 = updF v46.snd.snd.snd.fst v46.snd.fst (0 : Int) -> ∀ (v54 : Int -> Int), v54 = updF v46.snd.snd.snd.snd.fst v46.snd.fst v46.fst -> ∀ (v55 : Int -> Int), v55 = updF v46.snd.snd.snd.snd.snd.fst v46.snd.fst (0 : Int) -> ∀ (v56 : Int -> Int), v56 = updF v46.snd.snd.snd.snd.snd.snd.fst v46.snd.fst (0 : Int) -> ∀ (v57 : Int -> ByteArray), v57 = updF v46.snd.snd.snd.snd.snd.snd.snd.fst v46.snd.fst (bytesL []) -> ∀ (v58 : Int -> Int), v58 = updF v46.snd.snd.snd.snd.snd.snd.snd.snd v46.snd.fst (0 : Int) -> ∀ (v59 : Int -> Int), v59 = updF v52 (v46.snd.fst + (1 : Int)) (1 : Int) -> ∀ (v60 : Int -> Int), v60 = updF v53 (v46.snd.fst + (1 : Int)) (0 : Int) -> ∀ (v61 : Int -> Int), v61 = updF v54 (v46.snd.fst + (1 : Int)) (0 : Int) -> ∀ (v62 : Int -> Int), v62 = updF v55 (v46.snd.fst + (1 : Int)) (0 : Int) -> ∀ (v63 : Int -> Int), v63 = updF v56 (v46.snd.fst + (1 : Int)) v6 -> ∀ (v64 : Int -> ByteArray), v64 = updF v57 (v46.snd.fst + (1 : Int)) (bytesL []) -> ∀ (v65 : Int -> Int), v65 = updF v58 (v46.snd.fst + (1 : Int)) (0 : Int) -> ∀ (v66 : Int -> Int), v66 = updF v59 (v46.snd.fst + (1 : Int) + (1 : Int)) (4 : Int) -> ∀ (v67 : Int -> Int), v67 = updF v60 (v46.snd.fst + (1 : Int) + (1 : Int)) (0 : Int) -> ∀ (v68 : Int -> Int), v68 = updF v61 (v46.snd.fst + (1 : Int) + (1 : Int)) v46.fst -> ∀ (v69 : Int -> Int), v69 = updF v62 (v46.snd.fst + (1 : Int) + (1 : Int)) v50 -> ∀ (v70 : Int -> Int), v70 = updF v63 (v46.snd.fst + (1 : Int) + (1 : Int)) (0 : Int) -> ∀ (v71 : Int -> ByteArray), v71 = updF v64 (v46.snd.fst + (1 : Int) + (1 : Int)) (bytesL []) -> ∀ (v72 : Int -> Int), v72 = updF v65 (v46.snd.fst + (1 : Int) + (1 : Int)) (0 : Int) -> ∀ (v73 : Int -> Int), v73 = updF v66 (v46.snd.fst + (1 : Int) + (1 : Int) + (1 : Int)) (1 : Int) -> ∀ (v74 : Int -> Int), v74 = updF v67 (v46.snd.fst + (1 : Int) + (1 : Int) + (1 : Int)) (0 : Int) -> ∀ (v75 : Int -> Int), v75 = updF v68 (v46.snd.fst + (1 : Int) + (1 : Int) + (1 : Int)) (0 : Int) -> ∀ (v76 : Int -> Int), v76 = updF v69 (v46.snd.fst + (1 : Int) + (1 : Int) + (1 : Int)) (0 : Int) -> ∀ (v77 : Int -> Int), v77 = updF v70 (v46.snd.fst + (1 : Int) + (1 : Int) + (1 : Int)) v6 -> ∀ (v78 : Int -> ByteArray), v78 = updF v71 (v46.snd.fst + (1 : Int) + (1 : Int) + (1 : Int)) (bytesL []) -> ∀ (v79 : Int -> Int), v79 = updF v72 (v46.snd.fst + (1 : Int) + (1 : Int) + (1 : Int)) (0 : Int) -> ∀ (v80 : Int -> Int), v80 = updF v73 (v46.snd.fst + (1 : Int) + (1 : Int) + (1 : Int) + (1 : Int)) (5 : Int) -> ∀ (v81 : Int -> Int), v81 = updF v74 (v46.snd.fst + (1 : Int) + (1 : Int) + (1 : Int) + (1 : Int)) (0 : Int) -> ∀ (v82 : Int -> Int), v82 = updF v75 (v46.snd.fst + (1 : Int) + (1 : Int) + (1 : Int) + (1 : Int)) v46.fst -> ∀ (v83 : Int -> Int), v83 = updF v76 (v46.snd.fst + (1 : Int) + (1 : Int) + (1 : Int) + (1 : Int)) v51 -> ∀ (v84 : Int -> Int), v84 = updF v77 (v46.snd.fst + (1 : Int) + (1 : Int) + (1 : Int) + (1 : Int)) (0 : Int) -> ∀ (v85 : Int -> ByteArray), v85 = updF v78 (v46.snd.fst + (1 : Int) + (1 : Int) + (1 : Int) + (1 : Int)) (bytesL []) -> ∀ (v86 : Int -> Int), v86 = updF v79 (v46.snd.fst + (1 : Int) + (1 : Int) + (1 : Int) + (1 : Int)) (0 : Int) -> ∀ v87, v87 = v46.snd.fst + (5 : Int) -> ∀ v88, v88 = IntKind.i64.wrap (v46.fst + (1 : Int)) -> ∃ (x89 : Int × Int × (Int -> Int) × (Int -> Int) × (Int -> Int) × (Int -> Int) × (Int -> Int) × (Int -> ByteArray) × (Int -> Int)), ((((0 : Int) ≤ x89.fst /\ x89.fst ≤ v2) /\ x89.snd.fst = hoN v2 v36.fst + (5 : Int) * x89.fst) /\ hoA v2 v6 x89.snd.fst x89.snd.snd.fst x89.snd.snd.snd.fst x89.snd.snd.snd.snd.fst x89.snd.snd.snd.snd.snd.fst x89.snd.snd.snd.snd.snd.snd.fst x89.snd.snd.snd.snd.snd.snd.snd.fst x89.snd.snd.snd.snd.snd.snd.snd.snd) /\ ((v2 = v2 /\ v4 = v4 /\ v6 = v6 /\ (v87 = x89.snd.fst /\ True) /\ True /\ v36.fst = v36.fst /\ v4 = v4 /\ v36.fst = v36.fst /\ v2 = v2 /\ v88 = x89.fst /\ True) /\ ((2 : Int) = (2 : Int) /\ (0 : Int) = (0 : Int) /\ (0 : Int) = (0 : Int) /\ (0 : Int) = (0 : Int) /\ (0 : Int) = (0 : Int) /\ bytesL [] = bytesL [] /\ (0 : Int) = (0 : Int) /\ True) /\ (v87 = x89.snd.fst /\ (∀ (v90 : Int), (0 : Int) ≤ v90 -> v90 < x89.snd.fst -> v80 v90 = x89.snd.snd.fst v90) /\ (∀ (v91 : Int), (0 : Int) ≤ v91 -> v91 < x89.snd.fst -> v81 v91 = x89.snd.snd.snd.fst v91) /\ (∀ (v92 : Int), (0 : Int) ≤ v92 -> v92 < x89.snd.fst -> v82 v92 = x89.snd.snd.snd.snd.fst v92) /\ (∀ (v93 : Int), (0 : Int) ≤ v93 -> v93 < x89.snd.fst -> v83 v93 = x89.snd.snd.snd.snd.snd.fst v93) /\ (∀ (v94 : Int), (0 : Int) ≤ v94 -> v94 < x89.snd.fst -> v84 v94 = x89.snd.snd.snd.snd.snd.snd.fst v94) /\ (∀ (v95 : Int), (0 : Int) ≤ v95 -> v95 < x89.snd.fst -> v85 v95 = x89.snd.snd.snd.snd.snd.snd.snd.fst v95) /\ (∀ (v96 : Int), (0 : Int) ≤ v96 -> v96 < x89.snd.fst -> v86 v96 = x89.snd.snd.snd.snd.snd.snd.snd.snd v96) /\ True) /\ ((1 : Int) = (1 : Int) /\ (0 : Int) = (0 : Int) /\ (0 : Int) = (0 : Int) /\ (0 : Int) = (0 : Int) /\ v6 = v6 /\ bytesL [] = bytesL [] /\ (0 : Int) = (0 : Int) /\ True) /\ True) /\ ((3 : Int) - x89.fst).toNat < ((3 : Int) - v46.fst).toNat) /\ (v47 = false -> (v46.snd.fst = v46.snd.fst /\ (v46.snd.fst + (1 : Int)) * (64 : Int) ≤ (140737488355328 : Int) /\ v46.snd.fst + (1 : Int) ≤ (140737488355328 : Int)) /\ ∀ (v97 : Int -> Int), v97 = updF v46.snd.snd.fst v46.snd.fst (1 : Int) -> ∀ (v98 : Int -> Int), v98 = updF v46.snd.snd.snd.fst v46.snd.fst (0 : Int) -> ∀ (v99 : Int -> Int), v99 = updF v46.snd.snd.snd.snd.fst v46.snd.fst (0 : Int) -> ∀ (v100 : Int -> Int), v100 = updF v46.snd.snd.snd.snd.snd.fst v46.snd.fst (0 : Int) -> ∀ (v101 : Int -> Int), v101 = updF v46.snd.snd.snd.snd.snd.snd.fst v46.snd.fst (274877906944 : Int) -> ∀ (v102 : Int -> ByteArray), v102 = updF v46.snd.snd.snd.snd.snd.snd.snd.fst v46.snd.fst (bytesL []) -> ∀ (v103 : Int -> Int), v103 = updF v46.snd.snd.snd.snd.snd.snd.snd.snd v46.snd.fst (0 : Int) -> ∀ v104, v104 = v46.snd.fst + (1 : Int) -> ∀ v105, v105 = IntKind.i64.wrap (v36.fst + (1 : Int)) -> ∃ (x106 : Int × Int × (Int -> Int) × (Int -> Int) × (Int -> Int) × (Int -> Int) × (Int -> Int) × (Int -> ByteArray) × (Int -> Int)), ((((0 : Int) ≤ x106.fst /\ x106.fst ≤ v4) /\ x106.snd.fst = hoN v2 x106.fst) /\ hoA v2 v6 x106.snd.fst x106.snd.snd.fst x106.snd.snd.snd.fst x106.snd.snd.snd.snd.fst x106.snd.snd.snd.snd.snd.fst x106.snd.snd.snd.snd.snd.snd.fst x106.snd.snd.snd.snd.snd.snd.snd.fst x106.snd.snd.snd.snd.snd.snd.snd.snd) /\ ((v2 = v2 /\ v4 = v4 /\ v6 = v6 /\ (v104 = x106.snd.fst /\ True) /\ True /\ v4 = v4 /\ v105 = x106.fst /\ True) /\ ((2 : Int) = (2 : Int) /\ (0 : Int) = (0 : Int) /\ (0 : Int) = (0 : Int) /\ (0 : Int) = (0 : Int) /\ (0 : Int) = (0 : Int) /\ bytesL [] = bytesL [] /\ (0 : Int) = (0 : Int) /\ True) /\ (v104 = x106.snd.fst /\ (∀ (v107 : Int), (0 : Int) ≤ v107 -> v107 < x106.snd.fst -> v97 v107 = x106.snd.snd.fst v107) /\ (∀ (v108 : Int), (0 : Int) ≤ v108 -> v108 < x106.snd.fst -> v98 v108 = x106.snd.snd.snd.fst v108) /\ (∀ (v109 : Int), (0 : Int) ≤ v109 -> v109 < x106.snd.fst -> v99 v109 = x106.snd.snd.snd.snd.fst v109) /\ (∀ (v110 : Int), (0 : Int) ≤ v110 -> v110 < x106.snd.fst -> v100 v110 = x106.snd.snd.snd.snd.snd.fst v110) /\ (∀ (v111 : Int), (0 : Int) ≤ v111 -> v111 < x106.snd.fst -> v101 v111 = x106.snd.snd.snd.snd.snd.snd.fst v111) /\ (∀ (v112 : Int), (0 : Int) ≤ v112 -> v112 < x106.snd.fst -> v102 v112 = x106.snd.snd.snd.snd.snd.snd.snd.fst v112) /\ (∀ (v113 : Int), (0 : Int) ≤ v113 -> v113 < x106.snd.fst -> v103 v113 = x106.snd.snd.snd.snd.snd.snd.snd.snd v113) /\ True) /\ ((1 : Int) = (1 : Int) /\ (0 : Int) = (0 : Int) /\ (0 : Int) = (0 : Int) /\ (0 : Int) = (0 : Int) /\ v6 = v6 /\ bytesL [] = bytesL [] /\ (0 : Int) = (0 : Int) /\ True) /\ True) /\ ((4 : Int) - x106.fst).toNat < ((4 : Int) - v36.fst).toNat)) /\ (v37 = false -> (v36.snd.fst = hoN (hoS s) (hoD r) /\ (0 : Int) ≤ hoN (hoS s) (hoD r)) /\ (v36.snd.fst = hoN (hoS s) (hoD r) /\ (∀ (v114 : Int), (0 : Int) ≤ v114 -> v114 < hoN (hoS s) (hoD r) -> v36.snd.snd.fst v114 = hoK (hoS s) v114) /\ (∀ (v115 : Int), (0 : Int) ≤ v115 -> v115 < hoN (hoS s) (hoD r) -> v36.snd.snd.snd.fst v115 = hoZ v115) /\ (∀ (v116 : Int), (0 : Int) ≤ v116 -> v116 < hoN (hoS s) (hoD r) -> v36.snd.snd.snd.snd.fst v116 = hoB (hoS s) v116) /\ (∀ (v117 : Int), (0 : Int) ≤ v117 -> v117 < hoN (hoS s) (hoD r) -> v36.snd.snd.snd.snd.snd.fst v117 = hoP (hoS s) v117) /\ (∀ (v118 : Int), (0 : Int) ≤ v118 -> v118 < hoN (hoS s) (hoD r) -> v36.snd.snd.snd.snd.snd.snd.fst v118 = hoV (hoS s) (hoW w) v118) /\ (∀ (v119 : Int), (0 : Int) ≤ v119 -> v119 < hoN (hoS s) (hoD r) -> v36.snd.snd.snd.snd.snd.snd.snd.fst v119 = hoT v119) /\ (∀ (v120 : Int), (0 : Int) ≤ v120 -> v120 < hoN (hoS s) (hoD r) -> v36.snd.snd.snd.snd.snd.snd.snd.snd v120 = hoZ v120) /\ True) /\ True))) /\ (v7 = false -> (∃ (x121 : Int × Int × (Int -> Int) × (Int -> Int) × (Int -> Int) × (Int -> Int) × (Int -> Int) × (Int -> ByteArray) × (Int -> Int)), ((((0 : Int) ≤ x121.fst /\ x121.fst ≤ v4) /\ x121.snd.fst = hoN v2 x121.fst) /\ hoA v2 v6 x121.snd.fst x121.snd.snd.fst x121.snd.snd.snd.fst x121.snd.snd.snd.snd.fst x121.snd.snd.snd.snd.snd.fst x121.snd.snd.snd.snd.snd.snd.fst x121.snd.snd.snd.snd.snd.snd.snd.fst x121.snd.snd.snd.snd.snd.snd.snd.snd) /\ (v2 = v2 /\ v4 = v4 /\ v6 = v6 /\ False /\ True /\ v4 = v4 /\ (0 : Int) = x121.fst /\ True) /\ (x121.snd.fst * (7 : Int) = (7 : Int) /\ (1 : Int) = x121.snd.snd.fst (0 : Int) /\ (0 : Int) = x121.snd.snd.snd.fst (0 : Int) /\ (0 : Int) = x121.snd.snd.snd.snd.fst (0 : Int) /\ (0 : Int) = x121.snd.snd.snd.snd.snd.fst (0 : Int) /\ v6 = x121.snd.snd.snd.snd.snd.snd.fst (0 : Int) /\ bytesL [] = x121.snd.snd.snd.snd.snd.snd.snd.fst (0 : Int) /\ (0 : Int) = x121.snd.snd.snd.snd.snd.snd.snd.snd (0 : Int) /\ True) /\ True) /\ ∀ (v122 : Int × Int × (Int -> Int) × (Int -> Int) × (Int -> Int) × (Int -> Int) × (Int -> Int) × (Int -> ByteArray) × (Int -> Int)), (((0 : Int) ≤ v122.fst /\ v122.fst ≤ v4) /\ v122.snd.fst = hoN v2 v122.fst) /\ hoA v2 v6 v122.snd.fst v122.snd.snd.fst v122.snd.snd.snd.fst v122.snd.snd.snd.snd.fst v122.snd.snd.snd.snd.snd.fst v122.snd.snd.snd.snd.snd.snd.fst v122.snd.snd.snd.snd.snd.snd.snd.fst v122.snd.snd.snd.snd.snd.snd.snd.snd -> ∀ v123, v123 = decide (v122.fst < v4) -> (v123 = true -> (∃ (x124 : Int × Int × (Int -> Int) × (Int -> Int) × (Int -> Int) × (Int -> Int) × (Int -> Int) × (Int -> ByteArray) × (Int -> Int)), ((((0 : Int) ≤ x124.fst /\ x124.fst ≤ v2) /\ x124.snd.fst = hoN v2 v122.fst + (5 : Int) * x124.fst) /\ hoA v2 v6 x124.snd.fst x124.snd.snd.fst x124.snd.snd.snd.fst x124.snd.snd.snd.snd.fst x124.snd.snd.snd.snd.snd.fst x124.snd.snd.snd.snd.snd.snd.fst x124.snd.snd.snd.snd.snd.snd.snd.fst x124.snd.snd.snd.snd.snd.snd.snd.snd) /\ (v2 = v2 /\ v4 = v4 /\ v6 = v6 /\ (v122.snd.fst = x124.snd.fst /\ True) /\ True /\ v122.fst = v122.fst /\ v4 = v4 /\ v122.fst = v122.fst /\ v2 = v2 /\ (0 : Int) = x124.fst /\ True) /\ (v122.snd.fst = x124.snd.fst /\ (∀ (v125 : Int), (0 : Int) ≤ v125 -> v125 < x124.snd.fst -> v122.snd.snd.fst v125 = x124.snd.snd.fst v125) /\ (∀ (v126 : Int), (0 : Int) ≤ v126 -> v126 < x124.snd.fst -> v122.snd.snd.snd.fst v126 = x124.snd.snd.snd.fst v126) /\ (∀ (v127 : Int), (0 : Int) ≤ v127 -> v127 < x124.snd.fst -> v122.snd.snd.snd.snd.fst v127 = x124.snd.snd.snd.snd.fst v127) /\ (∀ (v128 : Int), (0 : Int) ≤ v128 -> v128 < x124.snd.fst -> v122.snd.snd.snd.snd.snd.fst v128 = x124.snd.snd.snd.snd.snd.fst v128) /\ (∀ (v129 : Int), (0 : Int) ≤ v129 -> v129 < x124.snd.fst -> v122.snd.snd.snd.snd.snd.snd.fst v129 = x124.snd.snd.snd.snd.snd.snd.fst v129) /\ (∀ (v130 : Int), (0 : Int) ≤ v130 -> v130 < x124.snd.fst -> v122.snd.snd.snd.snd.snd.snd.snd.fst v130 = x124.snd.snd.snd.snd.snd.snd.snd.fst v130) /\ (∀ (v131 : Int), (0 : Int) ≤ v131 -> v131 < x124.snd.fst -> v122.snd.snd.snd.snd.snd.snd.snd.snd v131 = x124.snd.snd.snd.snd.snd.snd.snd.snd v131) /\ True) /\ True) /\ ∀ (v132 : Int × Int × (Int -> Int) × (Int -> Int) × (Int -> Int) × (Int -> Int) × (Int -> Int) × (Int -> ByteArray) × (Int -> Int)), (((0 : Int) ≤ v132.fst /\ v132.fst ≤ v2) /\ v132.snd.fst = hoN v2 v122.fst + (5 : Int) * v132.fst) /\ hoA v2 v6 v132.snd.fst v132.snd.snd.fst v132.snd.snd.snd.fst v132.snd.snd.snd.snd.fst v132.snd.snd.snd.snd.snd.fst v132.snd.snd.snd.snd.snd.snd.fst v132.snd.snd.snd.snd.snd.snd.snd.fst v132.snd.snd.snd.snd.snd.snd.snd.snd -> ∀ v133, v133 = decide (v132.fst < v2) -> (v133 = true -> ∀ v134, v134 = IntKind.i64.wrap (v122.fst * v2) -> ∀ v135, v135 = IntKind.i64.wrap (v134 + v132.fst) -> ∀ v136, v136 = IntKind.i64.wrap ((2 : Int) * v135) -> False) /\ (v133 = false -> False)) /\ (v123 = false -> False))
theorem tieHonest (w0 : World) (s : Int) (r : Int) (w : Int) : VCHonest s r w = ((recN (GR Try.prog [] [] [] [] hoAnnSpec [] [] hoPeelSpec [] [] w0) 60).call 15 [.int .i64 (.sym s), .int .i64 (.sym r), .int .i64 (.sym w)] [] (fun r__ h__ => eqR h__ r__ [.s (hoN (hoS s) (hoD r)) [.int .i64 (hoK (hoS s)), .int .i64 (hoZ), .int .i64 (hoB (hoS s)), .int .i64 (hoP (hoS s)), .int .i64 (hoV (hoS s) (hoW w)), .str (hoT), .int .i64 (hoZ)] 36])) := by kernel_rfl
theorem pureHonest (w0 : World) (s r w : Int) (h : I64 s ∧ I64 r ∧ I64 w) (hm : True) : VCHonest s r w := by
  obtain ⟨hs, hr, hw⟩ := h
  unfold VCHonest
  intro v1 h1 v2 h2 v3 h3 v4 h4 v5 h5 v6 h6
  have e2 : v2 = hoS s := by unfold hoS; omega
  have e4 : v4 = hoD r := by unfold hoD; omega
  have e6 : v6 = hoW w := by unfold hoW; omega
  have b2 : 1 ≤ v2 ∧ v2 ≤ 3 := by omega
  have b4 : 0 ≤ v4 ∧ v4 ≤ 4 := by omega
  rw [← e2, ← e4, ← e6]
  clear e2 e4 e6 h1 h2 h3 h4 h5 h6
  refine br (fun c0 => ?_) fun c0 => absurd c0 (by omega)
  refine ⟨⟨(1, 1, _, _, _, _, _, _, _), ⟨⟨by omega, rfl⟩, ho_first v2 v6 b2.1⟩, by simp; rfl⟩, ?_⟩
  rintro ⟨i, N, k, a, b, p, v, t, o⟩ hR
  dsimp only at hR ⊢
  obtain ⟨⟨i0, rfl⟩, hA⟩ := hR
  refine br (fun ci => ?_) fun ci => ?_
  · refine ⟨⟨rfl, by omega, by omega⟩, ?_⟩
    rintro K hK A hA2 B hB P hP V hV T hT O hO _ rfl _ rfl
    have A1 : hoA v2 v6 (N + 1) K A B P V T O := by rw [hK, hA2, hB, hP, hV, hT, hO]; exact hoA_up hA rfl (ho_n ci) rfl rfl rfl
    exact ⟨(N + 1, N + 1, K, A, B, P, V, T, O), ⟨⟨by omega, rfl⟩, A1⟩, by simp [i64_id (n := N + 1) (by omega) (by omega)], by dsimp only; omega⟩
  obtain rfl : N = v2 := by omega
  refine ⟨⟨(0, N, _, _, _, _, _, _, _), ⟨⟨by omega, by dsimp only; unfold hoN; omega⟩, hA⟩, by simp⟩, ?_⟩
  clear hA i0 c0 ci k a b p v t o
  rintro ⟨i, M, k, a, b, p, v, t, o⟩ hR
  dsimp only at hR ⊢
  obtain ⟨⟨i0, rfl⟩, hA⟩ := hR
  have bb := hoN_in b2 (show 0 ≤ i ∧ i ≤ 4 by omega)
  refine br (fun ci => ?_) fun ci => ?_
  · refine ⟨⟨(0, hoN N i, _, _, _, _, _, _, _), ⟨⟨by omega, by dsimp only; omega⟩, hA⟩, by simp⟩, ?_⟩
    clear hA k a b p v t o
    rintro ⟨j, M, k, a, b, p, v, t, o⟩ hR
    dsimp only at hR ⊢
    obtain ⟨⟨j0, rfl⟩, hA⟩ := hR
    refine br (fun cj => ?_) fun cj => ?_
    · intro v48 h48 v49 h49 v50 h50 v51 h51
      rw [i64_id (by omega) (by omega)] at h48
      rw [i64_id (by omega) (by omega)] at h49
      rw [i64_id (by omega) (by omega)] at h50
      rw [i64_id (by omega) (by omega)] at h51
      subst h48 h49 h50 h51
      refine ⟨⟨rfl, by omega, by omega⟩, ?_⟩
      rintro _ rfl _ rfl _ rfl _ rfl _ rfl _ rfl _ rfl _ rfl _ rfl _ rfl _ rfl _ rfl _ rfl _ rfl _ rfl _ rfl _ rfl _ rfl _ rfl _ rfl _ rfl _ rfl _ rfl _ rfl _ rfl _ rfl _ rfl _ rfl K hK A hA2 B hB P hP V hV T hT O hO _ rfl _ rfl
      have g : 1 ≤ N ∧ 0 ≤ i ∧ 0 ≤ j ∧ j < N := by omega
      have A1 := hoA_up hA (M := hoN N i + 5 * j + 1) rfl (ho_0 g (by omega)) rfl rfl rfl
      have A2 := hoA_up A1 (M := hoN N i + 5 * j + 1 + 1) rfl (ho_1 g (by omega)) rfl rfl rfl
      have A3 := hoA_up A2 (M := hoN N i + 5 * j + 1 + 1 + 1) rfl (ho_2 g (by omega)) rfl rfl rfl
      have A4 := hoA_up A3 (M := hoN N i + 5 * j + 1 + 1 + 1 + 1) rfl (ho_3 g (by omega)) rfl rfl rfl
      have A5 : hoA N v6 (hoN N i + 5 * j + 5) K A B P V T O := by rw [hK, hA2, hB, hP, hV, hT, hO]; exact hoA_up A4 (by omega) (ho_4 g (by omega)) rfl rfl rfl
      exact ⟨(j + 1, hoN N i + 5 * j + 5, K, A, B, P, V, T, O), ⟨⟨by omega, by dsimp only; omega⟩, A5⟩, by simp [i64_id (n := j + 1) (by omega) (by omega)], by dsimp only; omega⟩
    · refine ⟨⟨rfl, by omega, by omega⟩, ?_⟩
      rintro K hK A hA2 B hB P hP V hV T hT O hO _ rfl _ rfl
      obtain rfl : j = N := by omega
      have A1 : hoA j v6 (hoN j i + 5 * j + 1) K A B P V T O := by rw [hK, hA2, hB, hP, hV, hT, hO]; exact hoA_up hA rfl (ho_5 ⟨b2.1, i0.1⟩ rfl) rfl rfl rfl
      refine ⟨(i + 1, hoN j i + 5 * j + 1, K, A, B, P, V, T, O), ⟨⟨by omega, by dsimp only; rw [hoN_up]⟩, A1⟩, ?_, by dsimp only; omega⟩
      simp [i64_id (n := i + 1) (by omega) (by omega)]
  · obtain rfl : i = v4 := by omega
    exact ⟨⟨rfl, by omega⟩, ⟨rfl, fun j a b => (hA j a b).1, fun j a b => (hA j a b).2.1, fun j a b => (hA j a b).2.2.1, fun j a b => (hA j a b).2.2.2.1, fun j a b => (hA j a b).2.2.2.2.1, fun j a b => (hA j a b).2.2.2.2.2.1, fun j a b => (hA j a b).2.2.2.2.2.2, trivial⟩, trivial⟩
theorem honest_ok : SpecOkR Try.prog 15 honestSpec := by
  intro args k h
  unfold honestSpec at h
  split at h
  · rename_i s r w
    obtain ⟨hr, h⟩ := h
    refine ⟨_, h _ rfl _ rfl _ rfl _ rfl _ rfl _ rfl _ rfl _ rfl, fun w0 args' he0 hm => ?_⟩
    obtain ⟨_, rfl, he1⟩ := eqBL_i he0
    obtain ⟨_, rfl, he2⟩ := eqBL_i he1
    obtain ⟨_, rfl, he3⟩ := eqBL_i he2
    obtain rfl := eqBL_n he3
    exact RunOk.of_tie (GR Try.prog [] [] [] [] hoAnnSpec [] [] hoPeelSpec [] []) (fun w__ => gokR w__ namesOk_ mixed_ trivial trivial trivial trivial) (fun _ => rfl) (fun _ => rfl) (args' := [.int .i64 (.sym s.val), .int .i64 (.sym r.val), .int .i64 (.sym w.val)]) ⟨⟨rfl, rfl⟩, ⟨rfl, rfl⟩, ⟨rfl, rfl⟩, trivial⟩ 60 (fun w__ => VCHonest s.val r.val w.val) (fun w__ => tieHonest w__ s.val r.val w.val) hm (fun w__ hm__ => pureHonest w__ s.val r.val w.val hr hm__)
  · exact h.elim

def rHonestSpec : RSpec := fun args k => match args, k with
  | [.int .i64 s, .int .i64 r, .int .i64 w], k => ((I64 s.val) ∧ (I64 r.val) ∧ (I64 w.val)) ∧ (∀ n0_ : Int, n0_ = (hoN (hoS s.val) (hoD r.val)) → ∀ g1_ : Int → Int, g1_ = (hoK (hoS s.val)) → ∀ g2_ : Int → Int, g2_ = (hoZ) → ∀ g3_ : Int → Int, g3_ = (hoB (hoS s.val)) → ∀ g4_ : Int → Int, g4_ = (hoP (hoS s.val)) → ∀ g5_ : Int → Int, g5_ = (hoV (hoS s.val) (hoW w.val)) → ∀ g6_ : Int → ByteArray, g6_ = (hoT) → ∀ g7_ : Int → Int, g7_ = (hoZ) → k [.s n0_ [.int .i64 g1_, .int .i64 g2_, .int .i64 g3_, .int .i64 g4_, .int .i64 g5_, .str g6_, .int .i64 g7_] 36])
  | _, _ => False
def VCRHonest (s : Int) (r : Int) (w : Int) : Prop :=
  ∀ (v1 : Int), (v1 = if (1 : Int) > s then (1 : Int) else s) -> ∀ (v2 : Int), (v2 = if (3 : Int) < v1 then (3 : Int) else v1) -> ∀ (v3 : Int), (v3 = if (0 : Int) > r then (0 : Int) else r) -> ∀ (v4 : Int), (v4 = if (4 : Int) < v3 then (4 : Int) else v3) -> ∀ (v5 : Int), (v5 = if (0 : Int) > w then (0 : Int) else w) -> ∀ (v6 : Int), (v6 = if (4294967296 : Int) < v5 then (4294967296 : Int) else v5) -> ∀ v7, v7 = decide ((0 : Int) < v2) -> (v7 = true -> (∃ (x8 : Int × Int × (Int -> Int) × (Int -> Int) × (Int -> Int) × (Int -> Int) × (Int -> Int) × (Int -> ByteArray) × (Int -> Int)), ((((1 : Int) ≤ x8.fst /\ x8.fst ≤ v2) /\ x8.snd.fst = x8.fst) /\ hoA v2 v6 x8.snd.fst x8.snd.snd.fst x8.snd.snd.snd.fst x8.snd.snd.snd.snd.fst x8.snd.snd.snd.snd.snd.fst x8.snd.snd.snd.snd.snd.snd.fst x8.snd.snd.snd.snd.snd.snd.snd.fst x8.snd.snd.snd.snd.snd.snd.snd.snd) /\ (v2 = v2 /\ v4 = v4 /\ v6 = v6 /\ ((1 : Int) = x8.snd.fst /\ True) /\ (1 : Int) = x8.fst /\ True) /\ ((2 : Int) = (2 : Int) /\ (0 : Int) = (0 : Int) /\ (0 : Int) = (0 : Int) /\ (0 : Int) = (0 : Int) /\ (0 : Int) = (0 : Int) /\ bytesL [] = bytesL [] /\ (0 : Int) = (0 : Int) /\ True) /\ (x8.snd.fst * (7 : Int) = (7 : Int) /\ (2 : Int) = x8.snd.snd.fst (0 : Int) /\ (0 : Int) = x8.snd.snd.snd.fst (0 : Int) /\ (0 : Int) = x8.snd.snd.snd.snd.fst (0 : Int) /\ (0 : Int) = x8.snd.snd.snd.snd.snd.fst (0 : Int) /\ (0 : Int) = x8.snd.snd.snd.snd.snd.snd.fst (0 : Int) /\ bytesL [] = x8.snd.snd.snd.snd.snd.snd.snd.fst (0 : Int) /\ (0 : Int) = x8.snd.snd.snd.snd.snd.snd.snd.snd (0 : Int) /\ True) /\ True) /\ ∀ (v9 : Int × Int × (Int -> Int) × (Int -> Int) × (Int -> Int) × (Int -> Int) × (Int -> Int) × (Int -> ByteArray) × (Int -> Int)), (((1 : Int) ≤ v9.fst /\ v9.fst ≤ v2) /\ v9.snd.fst = v9.fst) /\ hoA v2 v6 v9.snd.fst v9.snd.snd.fst v9.snd.snd.snd.fst v9.snd.snd.snd.snd.fst v9.snd.snd.snd.snd.snd.fst v9.snd.snd.snd.snd.snd.snd.fst v9.snd.snd.snd.snd.snd.snd.snd.fst v9.snd.snd.snd.snd.snd.snd.snd.snd -> ∀ v10, v10 = decide (v9.fst < v2) -> (v10 = true -> (v9.snd.fst = v9.snd.fst /\ (v9.snd.fst + (1 : Int)) * (64 : Int) ≤ (140737488355328 : Int) /\ v9.snd.fst + (1 : Int) ≤ (140737488355328 : Int)) /\ ∀ (v11 : Int -> Int), v11 = updF v9.snd.snd.fst v9.snd.fst (2 : Int) -> ∀ (v12 : Int -> Int), v12 = updF v9.snd.snd.snd.fst v9.snd.fst (0 : Int) -> ∀ (v13 : Int -> Int), v13 = updF v9.snd.snd.snd.snd.fst v9.snd.fst v9.fst -> ∀ (v14 : Int -> Int), v14 = updF v9.snd.snd.snd.snd.snd.fst v9.snd.fst (0 : Int) -> ∀ (v15 : Int -> Int), v15 = updF v9.snd.snd.snd.snd.snd.snd.fst v9.snd.fst (0 : Int) -> ∀ (v16 : Int -> ByteArray), v16 = updF v9.snd.snd.snd.snd.snd.snd.snd.fst v9.snd.fst (bytesL []) -> ∀ (v17 : Int -> Int), v17 = updF v9.snd.snd.snd.snd.snd.snd.snd.snd v9.snd.fst (0 : Int) -> ∀ v18, v18 = v9.snd.fst + (1 : Int) -> ∀ v19, v19 = IntKind.i64.wrap (v9.fst + (1 : Int)) -> ∃ (x20 : Int × Int × (Int -> Int) × (Int -> Int) × (Int -> Int) × (Int -> Int) × (Int -> Int) × (Int -> ByteArray) × (Int -> Int)), ((((1 : Int) ≤ x20.fst /\ x20.fst ≤ v2) /\ x20.snd.fst = x20.fst) /\ hoA v2 v6 x20.snd.fst x20.snd.snd.fst x20.snd.snd.snd.fst x20.snd.snd.snd.snd.fst x20.snd.snd.snd.snd.snd.fst x20.snd.snd.snd.snd.snd.snd.fst x20.snd.snd.snd.snd.snd.snd.snd.fst x20.snd.snd.snd.snd.snd.snd.snd.snd) /\ ((v2 = v2 /\ v4 = v4 /\ v6 = v6 /\ (v18 = x20.snd.fst /\ True) /\ v19 = x20.fst /\ True) /\ ((2 : Int) = (2 : Int) /\ (0 : Int) = (0 : Int) /\ (0 : Int) = (0 : Int) /\ (0 : Int) = (0 : Int) /\ (0 : Int) = (0 : Int) /\ bytesL [] = bytesL [] /\ (0 : Int) = (0 : Int) /\ True) /\ (v18 = x20.snd.fst /\ (∀ (v21 : Int), (0 : Int) ≤ v21 -> v21 < x20.snd.fst -> v11 v21 = x20.snd.snd.fst v21) /\ (∀ (v22 : Int), (0 : Int) ≤ v22 -> v22 < x20.snd.fst -> v12 v22 = x20.snd.snd.snd.fst v22) /\ (∀ (v23 : Int), (0 : Int) ≤ v23 -> v23 < x20.snd.fst -> v13 v23 = x20.snd.snd.snd.snd.fst v23) /\ (∀ (v24 : Int), (0 : Int) ≤ v24 -> v24 < x20.snd.fst -> v14 v24 = x20.snd.snd.snd.snd.snd.fst v24) /\ (∀ (v25 : Int), (0 : Int) ≤ v25 -> v25 < x20.snd.fst -> v15 v25 = x20.snd.snd.snd.snd.snd.snd.fst v25) /\ (∀ (v26 : Int), (0 : Int) ≤ v26 -> v26 < x20.snd.fst -> v16 v26 = x20.snd.snd.snd.snd.snd.snd.snd.fst v26) /\ (∀ (v27 : Int), (0 : Int) ≤ v27 -> v27 < x20.snd.fst -> v17 v27 = x20.snd.snd.snd.snd.snd.snd.snd.snd v27) /\ True) /\ True) /\ ((3 : Int) - x20.fst).toNat < ((3 : Int) - v9.fst).toNat) /\ (v10 = false -> (∃ (x28 : Int × Int × (Int -> Int) × (Int -> Int) × (Int -> Int) × (Int -> Int) × (Int -> Int) × (Int -> ByteArray) × (Int -> Int)), ((((0 : Int) ≤ x28.fst /\ x28.fst ≤ v4) /\ x28.snd.fst = hoN v2 x28.fst) /\ hoA v2 v6 x28.snd.fst x28.snd.snd.fst x28.snd.snd.snd.fst x28.snd.snd.snd.snd.fst x28.snd.snd.snd.snd.snd.fst x28.snd.snd.snd.snd.snd.snd.fst x28.snd.snd.snd.snd.snd.snd.snd.fst x28.snd.snd.snd.snd.snd.snd.snd.snd) /\ (v2 = v2 /\ v4 = v4 /\ v6 = v6 /\ (v9.snd.fst = x28.snd.fst /\ True) /\ (0 : Int) = (2 : Int) * (x28.fst * v2) /\ (0 : Int) = x28.fst /\ True) /\ ((2 : Int) = (2 : Int) /\ (0 : Int) = (0 : Int) /\ (0 : Int) = (0 : Int) /\ (0 : Int) = (0 : Int) /\ (0 : Int) = (0 : Int) /\ bytesL [] = bytesL [] /\ (0 : Int) = (0 : Int) /\ True) /\ (v9.snd.fst = x28.snd.fst /\ (∀ (v29 : Int), (0 : Int) ≤ v29 -> v29 < x28.snd.fst -> v9.snd.snd.fst v29 = x28.snd.snd.fst v29) /\ (∀ (v30 : Int), (0 : Int) ≤ v30 -> v30 < x28.snd.fst -> v9.snd.snd.snd.fst v30 = x28.snd.snd.snd.fst v30) /\ (∀ (v31 : Int), (0 : Int) ≤ v31 -> v31 < x28.snd.fst -> v9.snd.snd.snd.snd.fst v31 = x28.snd.snd.snd.snd.fst v31) /\ (∀ (v32 : Int), (0 : Int) ≤ v32 -> v32 < x28.snd.fst -> v9.snd.snd.snd.snd.snd.fst v32 = x28.snd.snd.snd.snd.snd.fst v32) /\ (∀ (v33 : Int), (0 : Int) ≤ v33 -> v33 < x28.snd.fst -> v9.snd.snd.snd.snd.snd.snd.fst v33 = x28.snd.snd.snd.snd.snd.snd.fst v33) /\ (∀ (v34 : Int), (0 : Int) ≤ v34 -> v34 < x28.snd.fst -> v9.snd.snd.snd.snd.snd.snd.snd.fst v34 = x28.snd.snd.snd.snd.snd.snd.snd.fst v34) /\ (∀ (v35 : Int), (0 : Int) ≤ v35 -> v35 < x28.snd.fst -> v9.snd.snd.snd.snd.snd.snd.snd.snd v35 = x28.snd.snd.snd.snd.snd.snd.snd.snd v35) /\ True) /\ True) /\ ∀ (v36 : Int × Int × (Int -> Int) × (Int -> Int) × (Int -> Int) × (Int -> Int) × (Int -> Int) × (Int -> ByteArray) × (Int -> Int)), (((0 : Int) ≤ v36.fst /\ v36.fst ≤ v4) /\ v36.snd.fst = hoN v2 v36.fst) /\ hoA v2 v6 v36.snd.fst v36.snd.snd.fst v36.snd.snd.snd.fst v36.snd.snd.snd.snd.fst v36.snd.snd.snd.snd.snd.fst v36.snd.snd.snd.snd.snd.snd.fst v36.snd.snd.snd.snd.snd.snd.snd.fst v36.snd.snd.snd.snd.snd.snd.snd.snd -> ∀ v37, v37 = decide (v36.fst < v4) -> (v37 = true -> (∃ (x38 : Int × Int × (Int -> Int) × (Int -> Int) × (Int -> Int) × (Int -> Int) × (Int -> Int) × (Int -> ByteArray) × (Int -> Int)), ((((0 : Int) ≤ x38.fst /\ x38.fst ≤ v2) /\ x38.snd.fst = hoN v2 v36.fst + (5 : Int) * x38.fst) /\ hoA v2 v6 x38.snd.fst x38.snd.snd.fst x38.snd.snd.snd.fst x38.snd.snd.snd.snd.fst x38.snd.snd.snd.snd.snd.fst x38.snd.snd.snd.snd.snd.snd.fst x38.snd.snd.snd.snd.snd.snd.snd.fst x38.snd.snd.snd.snd.snd.snd.snd.snd) /\ (v2 = v2 /\ v4 = v4 /\ v6 = v6 /\ (v36.snd.fst = x38.snd.fst /\ True) /\ (2 : Int) * (v36.fst * v2) = (2 : Int) * (v36.fst * v2 + x38.fst) /\ v36.fst = v36.fst /\ (0 : Int) = x38.fst /\ True) /\ ((2 : Int) = (2 : Int) /\ (0 : Int) = (0 : Int) /\ (0 : Int) = (0 : Int) /\ (0 : Int) = (0 : Int) /\ (0 : Int) = (0 : Int) /\ bytesL [] = bytesL [] /\ (0 : Int) = (0 : Int) /\ True) /\ (v36.snd.fst = x38.snd.fst /\ (∀ (v39 : Int), (0 : Int) ≤ v39 -> v39 < x38.snd.fst -> v36.snd.snd.fst v39 = x38.snd.snd.fst v39) /\ (∀ (v40 : Int), (0 : Int) ≤ v40 -> v40 < x38.snd.fst -> v36.snd.snd.snd.fst v40 = x38.snd.snd.snd.fst v40) /\ (∀ (v41 : Int), (0 : Int) ≤ v41 -> v41 < x38.snd.fst -> v36.snd.snd.snd.snd.fst v41 = x38.snd.snd.snd.snd.fst v41) /\ (∀ (v42 : Int), (0 : Int) ≤ v42 -> v42 < x38.snd.fst -> v36.snd.snd.snd.snd.snd.fst v42 = x38.snd.snd.snd.snd.snd.fst v42) /\ (∀ (v43 : Int), (0 : Int) ≤ v43 -> v43 < x38.snd.fst -> v36.snd.snd.snd.snd.snd.snd.fst v43 = x38.snd.snd.snd.snd.snd.snd.fst v43) /\ (∀ (v44 : Int), (0 : Int) ≤ v44 -> v44 < x38.snd.fst -> v36.snd.snd.snd.snd.snd.snd.snd.fst v44 = x38.snd.snd.snd.snd.snd.snd.snd.fst v44) /\ (∀ (v45 : Int), (0 : Int) ≤ v45 -> v45 < x38.snd.fst -> v36.snd.snd.snd.snd.snd.snd.snd.snd v45 = x38.snd.snd.snd.snd.snd.snd.snd.snd v45) /\ True) /\ True) /\ ∀ (v46 : Int × Int × (Int -> Int) × (Int -> Int) × (Int -> Int) × (Int -> Int) × (Int -> Int) × (Int -> ByteArray) × (Int -> Int)), (((0 : Int) ≤ v46.fst /\ v46.fst ≤ v2) /\ v46.snd.fst = hoN v2 v36.fst + (5 : Int) * v46.fst) /\ hoA v2 v6 v46.snd.fst v46.snd.snd.fst v46.snd.snd.snd.fst v46.snd.snd.snd.snd.fst v46.snd.snd.snd.snd.snd.fst v46.snd.snd.snd.snd.snd.snd.fst v46.snd.snd.snd.snd.snd.snd.snd.fst v46.snd.snd.snd.snd.snd.snd.snd.snd -> ∀ v47, v47 = decide (v46.fst < v2) -> (v47 = true -> (v46.snd.fst = v46.snd.fst /\ (v46.snd.fst + (3 : Int)) * (64 : Int) ≤ (140737488355328 : Int) /\ v46.snd.fst + (3 : Int) ≤ (140737488355328 : Int)) /\ ∀ (v48 : Int -> Int), v48 = updF v46.snd.snd.fst v46.snd.fst (3 : Int) -> ∀ (v49 : Int -> Int), v49 = updF v46.snd.snd.snd.fst v46.snd.fst (0 : Int) -> ∀ (v50 : Int -> Int), v50 = updF v46.snd.snd.snd.snd.fst v46.snd.fst v46.fst -> ∀ (v51 : Int -> Int), v51 = updF v46.snd.snd.snd.snd.snd.fst v46.snd.fst (0 : Int) -> ∀ (v52 : Int -> Int), v52 = updF v46.snd.snd.snd.snd.snd.snd.fst v46.snd.fst (0 : Int) -> ∀ (v53 : Int -> ByteArray), v53 = updF v46.snd.snd.snd.snd.snd.snd.snd.fst v46.snd.fst (bytesL []) -> ∀ (v54 : Int -> Int), v54 = updF v46.snd.snd.snd.snd.snd.snd.snd.snd v46.snd.fst (0 : Int) -> ∀ (v55 : Int -> Int), v55 = updF v48 (v46.snd.fst + (1 : Int)) (1 : Int) -> ∀ (v56 : Int -> Int), v56 = updF v49 (v46.snd.fst + (1 : Int)) (0 : Int) -> ∀ (v57 : Int -> Int), v57 = updF v50 (v46.snd.fst + (1 : Int)) (0 : Int) -> ∀ (v58 : Int -> Int), v58 = updF v51 (v46.snd.fst + (1 : Int)) (0 : Int) -> ∀ (v59 : Int -> Int), v59 = updF v52 (v46.snd.fst + (1 : Int)) v6 -> ∀ (v60 : Int -> ByteArray), v60 = updF v53 (v46.snd.fst + (1 : Int)) (bytesL []) -> ∀ (v61 : Int -> Int), v61 = updF v54 (v46.snd.fst + (1 : Int)) (0 : Int) -> ∀ (v62 : Int -> Int), v62 = updF v55 (v46.snd.fst + (1 : Int) + (1 : Int)) (4 : Int) -> ∀ (v63 : Int -> Int), v63 = updF v56 (v46.snd.fst + (1 : Int) + (1 : Int)) (0 : Int) -> ∀ (v64 : Int -> Int), v64 = updF v57 (v46.snd.fst + (1 : Int) + (1 : Int)) v46.fst -> ∀ (v65 : Int -> Int), v65 = updF v58 (v46.snd.fst + (1 : Int) + (1 : Int)) ((2 : Int) * (v36.fst * v2 + v46.fst)) -> ∀ (v66 : Int -> Int), v66 = updF v59 (v46.snd.fst + (1 : Int) + (1 : Int)) (0 : Int) -> ∀ (v67 : Int -> ByteArray), v67 = updF v60 (v46.snd.fst + (1 : Int) + (1 : Int)) (bytesL []) -> ∀ (v68 : Int -> Int), v68 = updF v61 (v46.snd.fst + (1 : Int) + (1 : Int)) (0 : Int) -> ∀ v69, v69 = v46.snd.fst + (3 : Int) -> ∀ v70, v70 = IntKind.i64.wrap ((2 : Int) * (v36.fst * v2 + v46.fst) + (1 : Int)) -> (v69 = v69 /\ (v69 + (2 : Int)) * (64 : Int) ≤ (140737488355328 : Int) /\ v69 + (2 : Int) ≤ (140737488355328 : Int)) /\ ∀ (v71 : Int -> Int), v71 = updF v62 v69 (1 : Int) -> ∀ (v72 : Int -> Int), v72 = updF v63 v69 (0 : Int) -> ∀ (v73 : Int -> Int), v73 = updF v64 v69 (0 : Int) -> ∀ (v74 : Int -> Int), v74 = updF v65 v69 (0 : Int) -> ∀ (v75 : Int -> Int), v75 = updF v66 v69 v6 -> ∀ (v76 : Int -> ByteArray), v76 = updF v67 v69 (bytesL []) -> ∀ (v77 : Int -> Int), v77 = updF v68 v69 (0 : Int) -> ∀ (v78 : Int -> Int), v78 = updF v71 (v69 + (1 : Int)) (5 : Int) -> ∀ (v79 : Int -> Int), v79 = updF v72 (v69 + (1 : Int)) (0 : Int) -> ∀ (v80 : Int -> Int), v80 = updF v73 (v69 + (1 : Int)) v46.fst -> ∀ (v81 : Int -> Int), v81 = updF v74 (v69 + (1 : Int)) v70 -> ∀ (v82 : Int -> Int), v82 = updF v75 (v69 + (1 : Int)) (0 : Int) -> ∀ (v83 : Int -> ByteArray), v83 = updF v76 (v69 + (1 : Int)) (bytesL []) -> ∀ (v84 : Int -> Int), v84 = updF v77 (v69 + (1 : Int)) (0 : Int) -> ∀ v85, v85 = v69 + (2 : Int) -> ∀ v86, v86 = IntKind.i64.wrap ((2 : Int) * (v36.fst * v2 + v46.fst) + (2 : Int)) -> ∀ v87, v87 = IntKind.i64.wrap (v46.fst + (1 : Int)) -> ∃ (x88 : Int × Int × (Int -> Int) × (Int -> Int) × (Int -> Int) × (Int -> Int) × (Int -> Int) × (Int -> ByteArray) × (Int -> Int)), ((((0 : Int) ≤ x88.fst /\ x88.fst ≤ v2) /\ x88.snd.fst = hoN v2 v36.fst + (5 : Int) * x88.fst) /\ hoA v2 v6 x88.snd.fst x88.snd.snd.fst x88.snd.snd.snd.fst x88.snd.snd.snd.snd.fst x88.snd.snd.snd.snd.snd.fst x88.snd.snd.snd.snd.snd.snd.fst x88.snd.snd.snd.snd.snd.snd.snd.fst x88.snd.snd.snd.snd.snd.snd.snd.snd) /\ ((v2 = v2 /\ v4 = v4 /\ v6 = v6 /\ (v85 = x88.snd.fst /\ True) /\ v86 = (2 : Int) * (v36.fst * v2 + x88.fst) /\ v36.fst = v36.fst /\ v87 = x88.fst /\ True) /\ ((2 : Int) = (2 : Int) /\ (0 : Int) = (0 : Int) /\ (0 : Int) = (0 : Int) /\ (0 : Int) = (0 : Int) /\ (0 : Int) = (0 : Int) /\ bytesL [] = bytesL [] /\ (0 : Int) = (0 : Int) /\ True) /\ (v85 = x88.snd.fst /\ (∀ (v89 : Int), (0 : Int) ≤ v89 -> v89 < x88.snd.fst -> v78 v89 = x88.snd.snd.fst v89) /\ (∀ (v90 : Int), (0 : Int) ≤ v90 -> v90 < x88.snd.fst -> v79 v90 = x88.snd.snd.snd.fst v90) /\ (∀ (v91 : Int), (0 : Int) ≤ v91 -> v91 < x88.snd.fst -> v80 v91 = x88.snd.snd.snd.snd.fst v91) /\ (∀ (v92 : Int), (0 : Int) ≤ v92 -> v92 < x88.snd.fst -> v81 v92 = x88.snd.snd.snd.snd.snd.fst v92) /\ (∀ (v93 : Int), (0 : Int) ≤ v93 -> v93 < x88.snd.fst -> v82 v93 = x88.snd.snd.snd.snd.snd.snd.fst v93) /\ (∀ (v94 : Int), (0 : Int) ≤ v94 -> v94 < x88.snd.fst -> v83 v94 = x88.snd.snd.snd.snd.snd.snd.snd.fst v94) /\ (∀ (v95 : Int), (0 : Int) ≤ v95 -> v95 < x88.snd.fst -> v84 v95 = x88.snd.snd.snd.snd.snd.snd.snd.snd v95) /\ True) /\ True) /\ ((3 : Int) - x88.fst).toNat < ((3 : Int) - v46.fst).toNat) /\ (v47 = false -> (v46.snd.fst = v46.snd.fst /\ (v46.snd.fst + (1 : Int)) * (64 : Int) ≤ (140737488355328 : Int) /\ v46.snd.fst + (1 : Int) ≤ (140737488355328 : Int)) /\ ∀ (v96 : Int -> Int), v96 = updF v46.snd.snd.fst v46.snd.fst (1 : Int) -> ∀ (v97 : Int -> Int), v97 = updF v46.snd.snd.snd.fst v46.snd.fst (0 : Int) -> ∀ (v98 : Int -> Int), v98 = updF v46.snd.snd.snd.snd.fst v46.snd.fst (0 : Int) -> ∀ (v99 : Int -> Int), v99 = updF v46.snd.snd.snd.snd.snd.fst v46.snd.fst (0 : Int) -> ∀ (v100 : Int -> Int), v100 = updF v46.snd.snd.snd.snd.snd.snd.fst v46.snd.fst (274877906944 : Int) -> ∀ (v101 : Int -> ByteArray), v101 = updF v46.snd.snd.snd.snd.snd.snd.snd.fst v46.snd.fst (bytesL []) -> ∀ (v102 : Int -> Int), v102 = updF v46.snd.snd.snd.snd.snd.snd.snd.snd v46.snd.fst (0 : Int) -> ∀ v103, v103 = v46.snd.fst + (1 : Int) -> ∀ v104, v104 = IntKind.i64.wrap (v36.fst + (1 : Int)) -> ∃ (x105 : Int × Int × (Int -> Int) × (Int -> Int) × (Int -> Int) × (Int -> Int) × (Int -> Int) × (Int -> ByteArray) × (Int -> Int)), ((((0 : Int) ≤ x105.fst /\ x105.fst ≤ v4) /\ x105.snd.fst = hoN v2 x105.fst) /\ hoA v2 v6 x105.snd.fst x105.snd.snd.fst x105.snd.snd.snd.fst x105.snd.snd.snd.snd.fst x105.snd.snd.snd.snd.snd.fst x105.snd.snd.snd.snd.snd.snd.fst x105.snd.snd.snd.snd.snd.snd.snd.fst x105.snd.snd.snd.snd.snd.snd.snd.snd) /\ ((v2 = v2 /\ v4 = v4 /\ v6 = v6 /\ (v103 = x105.snd.fst /\ True) /\ (2 : Int) * (v36.fst * v2 + v46.fst) = (2 : Int) * (x105.fst * v2) /\ v104 = x105.fst /\ True) /\ ((2 : Int) = (2 : Int) /\ (0 : Int) = (0 : Int) /\ (0 : Int) = (0 : Int) /\ (0 : Int) = (0 : Int) /\ (0 : Int) = (0 : Int) /\ bytesL [] = bytesL [] /\ (0 : Int) = (0 : Int) /\ True) /\ (v103 = x105.snd.fst /\ (∀ (v106 : Int), (0 : Int) ≤ v106 -> v106 < x105.snd.fst -> v96 v106 = x105.snd.snd.fst v106) /\ (∀ (v107 : Int), (0 : Int) ≤ v107 -> v107 < x105.snd.fst -> v97 v107 = x105.snd.snd.snd.fst v107) /\ (∀ (v108 : Int), (0 : Int) ≤ v108 -> v108 < x105.snd.fst -> v98 v108 = x105.snd.snd.snd.snd.fst v108) /\ (∀ (v109 : Int), (0 : Int) ≤ v109 -> v109 < x105.snd.fst -> v99 v109 = x105.snd.snd.snd.snd.snd.fst v109) /\ (∀ (v110 : Int), (0 : Int) ≤ v110 -> v110 < x105.snd.fst -> v100 v110 = x105.snd.snd.snd.snd.snd.snd.fst v110) /\ (∀ (v111 : Int), (0 : Int) ≤ v111 -> v111 < x105.snd.fst -> v101 v111 = x105.snd.snd.snd.snd.snd.snd.snd.fst v111) /\ (∀ (v112 : Int), (0 : Int) ≤ v112 -> v112 < x105.snd.fst -> v102 v112 = x105.snd.snd.snd.snd.snd.snd.snd.snd v112) /\ True) /\ True) /\ ((4 : Int) - x105.fst).toNat < ((4 : Int) - v36.fst).toNat)) /\ (v37 = false -> (v36.snd.fst = hoN (hoS s) (hoD r) /\ (0 : Int) ≤ hoN (hoS s) (hoD r)) /\ (v36.snd.fst = hoN (hoS s) (hoD r) /\ (∀ (v113 : Int), (0 : Int) ≤ v113 -> v113 < hoN (hoS s) (hoD r) -> v36.snd.snd.fst v113 = hoK (hoS s) v113) /\ (∀ (v114 : Int), (0 : Int) ≤ v114 -> v114 < hoN (hoS s) (hoD r) -> v36.snd.snd.snd.fst v114 = hoZ v114) /\ (∀ (v115 : Int), (0 : Int) ≤ v115 -> v115 < hoN (hoS s) (hoD r) -> v36.snd.snd.snd.snd.fst v115 = hoB (hoS s) v115) /\ (∀ (v116 : Int), (0 : Int) ≤ v116 -> v116 < hoN (hoS s) (hoD r) -> v36.snd.snd.snd.snd.snd.fst v116 = hoP (hoS s) v116) /\ (∀ (v117 : Int), (0 : Int) ≤ v117 -> v117 < hoN (hoS s) (hoD r) -> v36.snd.snd.snd.snd.snd.snd.fst v117 = hoV (hoS s) (hoW w) v117) /\ (∀ (v118 : Int), (0 : Int) ≤ v118 -> v118 < hoN (hoS s) (hoD r) -> v36.snd.snd.snd.snd.snd.snd.snd.fst v118 = hoT v118) /\ (∀ (v119 : Int), (0 : Int) ≤ v119 -> v119 < hoN (hoS s) (hoD r) -> v36.snd.snd.snd.snd.snd.snd.snd.snd v119 = hoZ v119) /\ True) /\ True))) /\ (v7 = false -> (∃ (x120 : Int × Int × (Int -> Int) × (Int -> Int) × (Int -> Int) × (Int -> Int) × (Int -> Int) × (Int -> ByteArray) × (Int -> Int)), ((((0 : Int) ≤ x120.fst /\ x120.fst ≤ v4) /\ x120.snd.fst = hoN v2 x120.fst) /\ hoA v2 v6 x120.snd.fst x120.snd.snd.fst x120.snd.snd.snd.fst x120.snd.snd.snd.snd.fst x120.snd.snd.snd.snd.snd.fst x120.snd.snd.snd.snd.snd.snd.fst x120.snd.snd.snd.snd.snd.snd.snd.fst x120.snd.snd.snd.snd.snd.snd.snd.snd) /\ (v2 = v2 /\ v4 = v4 /\ v6 = v6 /\ False /\ (0 : Int) = (2 : Int) * (x120.fst * v2) /\ (0 : Int) = x120.fst /\ True) /\ True) /\ ∀ (v121 : Int × Int × (Int -> Int) × (Int -> Int) × (Int -> Int) × (Int -> Int) × (Int -> Int) × (Int -> ByteArray) × (Int -> Int)), (((0 : Int) ≤ v121.fst /\ v121.fst ≤ v4) /\ v121.snd.fst = hoN v2 v121.fst) /\ hoA v2 v6 v121.snd.fst v121.snd.snd.fst v121.snd.snd.snd.fst v121.snd.snd.snd.snd.fst v121.snd.snd.snd.snd.snd.fst v121.snd.snd.snd.snd.snd.snd.fst v121.snd.snd.snd.snd.snd.snd.snd.fst v121.snd.snd.snd.snd.snd.snd.snd.snd -> ∀ v122, v122 = decide (v121.fst < v4) -> (v122 = true -> (∃ (x123 : Int × Int × (Int -> Int) × (Int -> Int) × (Int -> Int) × (Int -> Int) × (Int -> Int) × (Int -> ByteArray) × (Int -> Int)), ((((0 : Int) ≤ x123.fst /\ x123.fst ≤ v2) /\ x123.snd.fst = hoN v2 v121.fst + (5 : Int) * x123.fst) /\ hoA v2 v6 x123.snd.fst x123.snd.snd.fst x123.snd.snd.snd.fst x123.snd.snd.snd.snd.fst x123.snd.snd.snd.snd.snd.fst x123.snd.snd.snd.snd.snd.snd.fst x123.snd.snd.snd.snd.snd.snd.snd.fst x123.snd.snd.snd.snd.snd.snd.snd.snd) /\ (v2 = v2 /\ v4 = v4 /\ v6 = v6 /\ (v121.snd.fst = x123.snd.fst /\ True) /\ (2 : Int) * (v121.fst * v2) = (2 : Int) * (v121.fst * v2 + x123.fst) /\ v121.fst = v121.fst /\ (0 : Int) = x123.fst /\ True) /\ True) /\ ∀ (v124 : Int × Int × (Int -> Int) × (Int -> Int) × (Int -> Int) × (Int -> Int) × (Int -> Int) × (Int -> ByteArray) × (Int -> Int)), (((0 : Int) ≤ v124.fst /\ v124.fst ≤ v2) /\ v124.snd.fst = hoN v2 v121.fst + (5 : Int) * v124.fst) /\ hoA v2 v6 v124.snd.fst v124.snd.snd.fst v124.snd.snd.snd.fst v124.snd.snd.snd.snd.fst v124.snd.snd.snd.snd.snd.fst v124.snd.snd.snd.snd.snd.snd.fst v124.snd.snd.snd.snd.snd.snd.snd.fst v124.snd.snd.snd.snd.snd.snd.snd.snd -> ∀ v125, v125 = decide (v124.fst < v2) -> (v125 = true -> False) /\ (v125 = false -> False)) /\ (v122 = false -> False))
theorem tieRHonest (w0 : World) (s : Int) (r : Int) (w : Int) : VCRHonest s r w = ((recN (GR Try.prog [] [] [] [] hoAnnSpec [] [] hoPeelSpec [] [] w0) 60).call 16 [.int .i64 (.sym s), .int .i64 (.sym r), .int .i64 (.sym w)] [] (fun r__ h__ => eqR h__ r__ [.s (hoN (hoS s) (hoD r)) [.int .i64 (hoK (hoS s)), .int .i64 (hoZ), .int .i64 (hoB (hoS s)), .int .i64 (hoP (hoS s)), .int .i64 (hoV (hoS s) (hoW w)), .str (hoT), .int .i64 (hoZ)] 36])) := by kernel_rfl
theorem pureRHonest (w0 : World) (s r w : Int) (h : I64 s ∧ I64 r ∧ I64 w) (hm : True) : VCRHonest s r w := by
  obtain ⟨hs, hr, hw⟩ := h
  unfold VCRHonest
  intro v1 h1 v2 h2 v3 h3 v4 h4 v5 h5 v6 h6
  have e2 : v2 = hoS s := by unfold hoS; omega
  have e4 : v4 = hoD r := by unfold hoD; omega
  have e6 : v6 = hoW w := by unfold hoW; omega
  have b2 : 1 ≤ v2 ∧ v2 ≤ 3 := by omega
  have b4 : 0 ≤ v4 ∧ v4 ≤ 4 := by omega
  rw [← e2, ← e4, ← e6]
  clear e2 e4 e6 h1 h2 h3 h4 h5 h6
  refine br (fun c0 => ?_) fun c0 => absurd c0 (by omega)
  refine ⟨⟨(1, 1, _, _, _, _, _, _, _), ⟨⟨by omega, rfl⟩, ho_first v2 v6 b2.1⟩, by simp; rfl⟩, ?_⟩
  rintro ⟨i, N, k, a, b, p, v, t, o⟩ hR
  dsimp only at hR ⊢
  obtain ⟨⟨i0, rfl⟩, hA⟩ := hR
  refine br (fun ci => ?_) fun ci => ?_
  · refine ⟨⟨rfl, by omega, by omega⟩, ?_⟩
    rintro K hK A hA2 B hB P hP V hV T hT O hO _ rfl _ rfl
    have A1 : hoA v2 v6 (N + 1) K A B P V T O := by rw [hK, hA2, hB, hP, hV, hT, hO]; exact hoA_up hA rfl (ho_n ci) rfl rfl rfl
    exact ⟨(N + 1, N + 1, K, A, B, P, V, T, O), ⟨⟨by omega, rfl⟩, A1⟩, by simp [i64_id (n := N + 1) (by omega) (by omega)], by dsimp only; omega⟩
  obtain rfl : N = v2 := by omega
  refine ⟨⟨(0, N, _, _, _, _, _, _, _), ⟨⟨by omega, by dsimp only; unfold hoN; omega⟩, hA⟩, by simp⟩, ?_⟩
  clear hA i0 c0 ci k a b p v t o
  rintro ⟨i, M, k, a, b, p, v, t, o⟩ hR
  dsimp only at hR ⊢
  obtain ⟨⟨i0, rfl⟩, hA⟩ := hR
  have bb := hoN_in b2 (show 0 ≤ i ∧ i ≤ 4 by omega)
  refine br (fun ci => ?_) fun ci => ?_
  · refine ⟨⟨(0, hoN N i, _, _, _, _, _, _, _), ⟨⟨by omega, by dsimp only; omega⟩, hA⟩, by simp⟩, ?_⟩
    clear hA k a b p v t o
    rintro ⟨j, M, k, a, b, p, v, t, o⟩ hR
    dsimp only at hR ⊢
    obtain ⟨⟨j0, rfl⟩, hA⟩ := hR
    refine br (fun cj => ?_) fun cj => ?_
    · refine ⟨⟨rfl, by omega, by omega⟩, ?_⟩
      rintro _ rfl _ rfl _ rfl _ rfl _ rfl _ rfl _ rfl _ rfl _ rfl _ rfl _ rfl _ rfl _ rfl _ rfl _ rfl _ rfl _ rfl _ rfl _ rfl _ rfl _ rfl _ rfl
      intro v70 h70
      rw [i64_id (by omega) (by omega)] at h70
      subst h70
      refine ⟨⟨rfl, by omega, by omega⟩, ?_⟩
      rintro _ rfl _ rfl _ rfl _ rfl _ rfl _ rfl _ rfl K hK A hA2 B hB P hP V hV T hT O hO _ rfl
      intro v86 h86 v87 h87
      rw [i64_id (by omega) (by omega)] at h86
      rw [i64_id (by omega) (by omega)] at h87
      subst h86 h87
      have g : 1 ≤ N ∧ 0 ≤ i ∧ 0 ≤ j ∧ j < N := by omega
      have A1 := hoA_up hA (M := hoN N i + 5 * j + 1) rfl (ho_0 g (by omega)) rfl rfl rfl
      have A2 := hoA_up A1 (M := hoN N i + 5 * j + 1 + 1) rfl (ho_1 g (by omega)) rfl rfl rfl
      have A3 := hoA_up A2 (M := hoN N i + 5 * j + 3) (by omega) (ho_2 g (by omega)) rfl rfl rfl
      have A4 := hoA_up A3 (M := hoN N i + 5 * j + 3 + 1) rfl (ho_3 g (by omega)) rfl rfl rfl
      have A5 : hoA N v6 (hoN N i + 5 * j + 3 + 2) K A B P V T O := by rw [hK, hA2, hB, hP, hV, hT, hO]; exact hoA_up A4 (by omega) (ho_4 g (by omega)) rfl rfl rfl
      refine ⟨(j + 1, hoN N i + 5 * j + 3 + 2, K, A, B, P, V, T, O), ⟨⟨by omega, by dsimp only; omega⟩, A5⟩, ?_, by dsimp only; omega⟩
      have e9 : 2 * (i * N + j) + 2 = 2 * (i * N + (j + 1)) := by omega
      simp [e9]
    · refine ⟨⟨rfl, by omega, by omega⟩, ?_⟩
      rintro K hK A hA2 B hB P hP V hV T hT O hO _ rfl _ rfl
      obtain rfl : j = N := by omega
      have A1 : hoA j v6 (hoN j i + 5 * j + 1) K A B P V T O := by rw [hK, hA2, hB, hP, hV, hT, hO]; exact hoA_up hA rfl (ho_5 ⟨b2.1, i0.1⟩ rfl) rfl rfl rfl
      refine ⟨(i + 1, hoN j i + 5 * j + 1, K, A, B, P, V, T, O), ⟨⟨by omega, by dsimp only; rw [hoN_up]⟩, A1⟩, ?_, by dsimp only; omega⟩
      simp [i64_id (n := i + 1) (by omega) (by omega), mul_up]
  · obtain rfl : i = v4 := by omega
    exact ⟨⟨rfl, by omega⟩, ⟨rfl, fun j a b => (hA j a b).1, fun j a b => (hA j a b).2.1, fun j a b => (hA j a b).2.2.1, fun j a b => (hA j a b).2.2.2.1, fun j a b => (hA j a b).2.2.2.2.1, fun j a b => (hA j a b).2.2.2.2.2.1, fun j a b => (hA j a b).2.2.2.2.2.2, trivial⟩, trivial⟩
theorem rHonest_ok : SpecOkR Try.prog 16 rHonestSpec := by
  intro args k h
  unfold rHonestSpec at h
  split at h
  · rename_i s r w
    obtain ⟨hr, h⟩ := h
    refine ⟨_, h _ rfl _ rfl _ rfl _ rfl _ rfl _ rfl _ rfl _ rfl, fun w0 args' he0 hm => ?_⟩
    obtain ⟨_, rfl, he1⟩ := eqBL_i he0
    obtain ⟨_, rfl, he2⟩ := eqBL_i he1
    obtain ⟨_, rfl, he3⟩ := eqBL_i he2
    obtain rfl := eqBL_n he3
    exact RunOk.of_tie (GR Try.prog [] [] [] [] hoAnnSpec [] [] hoPeelSpec [] []) (fun w__ => gokR w__ namesOk_ mixed_ trivial trivial trivial trivial) (fun _ => rfl) (fun _ => rfl) (args' := [.int .i64 (.sym s.val), .int .i64 (.sym r.val), .int .i64 (.sym w.val)]) ⟨⟨rfl, rfl⟩, ⟨rfl, rfl⟩, ⟨rfl, rfl⟩, trivial⟩ 60 (fun w__ => VCRHonest s.val r.val w.val) (fun w__ => tieRHonest w__ s.val r.val w.val) hm (fun w__ hm__ => pureRHonest w__ s.val r.val w.val hr hm__)
  · exact h.elim

end Go.Proofs.Ytifbolmkiafmgaa.A
