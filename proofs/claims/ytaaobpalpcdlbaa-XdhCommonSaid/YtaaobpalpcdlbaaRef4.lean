import Derived.Test.YtaaobpalpcdlbaaSxN
import Derived.Test.YtaaobpalpcdlbaaSxP
import Derived.Test.YtaaobpalpcdlbaaSxR
import Derived.Test.YtaaobpalpcdlbaaProg
import Derived.Test.YtaaobpalpcdlbaaRef3
import Derived.KernelRfl
namespace Go.Proofs.Ytaaobpalpcdlbaa.Bits
open Go Go.Sx Go.RowKit
set_option linter.unusedVariables false
set_option maxRecDepth 100000
def hvF (x m : Int) : Int := if x % 2 = 1 then (x + m) / 2 else x / 2
def lsF (a b m : Int) : Int := if a < b then a - b + m else a - b
def hvCSpec : St → Inv := fun S =>
  { ι := Int × Int
    T := fun p => keepS (stS (hNumSpec S 0 p.1) [(5, .int .u64 (.sym p.2))]) [2, 3, 4, 5]
    R := fun p => p = if val4 (hat S 0 0) (hat S 0 1) (hat S 0 2) (hat S 0 3) % 2 = 1 then ((val4 (hat S 0 0) (hat S 0 1) (hat S 0 2) (hat S 0 3) + val4 (hat S 1 0) (hat S 1 1) (hat S 1 2) (hat S 1 3)) % 115792089237316195423570985008687907853269984665640564039457584007913129639936, (val4 (hat S 0 0) (hat S 0 1) (hat S 0 2) (hat S 0 3) + val4 (hat S 1 0) (hat S 1 1) (hat S 1 2) (hat S 1 3)) / 115792089237316195423570985008687907853269984665640564039457584007913129639936) else (val4 (hat S 0 0) (hat S 0 1) (hat S 0 2) (hat S 0 3), 0)
    μ := fun _ => 0 }
def ref4Spec : List (FuncId × CSpec) := [(36, rRemSpec), (30, rAddSpec), (29, rSubSpec), (25, rCmpSpec), (80, rBitSpec), (79, rLenSpec), (77, rDivSpec), (38, r2SubSpec), (39, r2MulSpec)]
theorem ref4_ok : SpecsOk Try.prog ref4Spec := ⟨rRem_ok, rAdd_ok, rSub_ok, rCmp_ok, rBit_ok, rLen_ok, rDiv_ok, r2Sub_ok, r2Mul_ok, trivial⟩
def hvAnnSpec : Anns := []
def hvCutSpec : Anns := [(133, 100010, hvCSpec)]
def rPowASpec : St → Inv := fun S =>
  { ι := Int × Int
    T := fun p => keepS (stS (hNumSpec S 4 p.2) [(8, .int .i64 (.sym p.1))]) [3, 4, 5, 6, 7, 8]
    R := fun p => (-1 ≤ p.1 ∧ p.1 ≤ 255) ∧ p.2 = powF (val4 (hat S 0 0) (hat S 0 1) (hat S 0 2) (hat S 0 3)) (val4 (hat S 1 0) (hat S 1 1) (hat S 1 2) (hat S 1 3) / 2 ^ (p.1 + 1).toNat) (val4 (hat S 2 0) (hat S 2 1) (hat S 2 2) (hat S 2 3))
    μ := fun p => (p.1 + 1).toNat }
def rPowAnnSpec : Anns := [(21, 0, rPowASpec)]
def rPowCutSpec : Anns := []
theorem powF_dbl {a k m : Int} (h : 0 ≤ k) : modF (powF a k m * powF a k m) m = powF a (2 * k) m := by
  obtain ⟨n, rfl⟩ := Int.eq_ofNat_of_zero_le h
  unfold powF
  rw [modF_mul_left, modF_mul_right, ← Int.pow_add]
  congr 2; omega
theorem powF_one {a k m : Int} (h : 0 ≤ k) : modF (powF a k m * a) m = powF a (k + 1) m := by
  obtain ⟨n, rfl⟩ := Int.eq_ofNat_of_zero_le h
  unfold powF
  rw [modF_mul_left, ← Int.pow_succ]
  congr 2
def halfSpec : CSpec
  | [.agg [.int .u64 x0, .int .u64 x1, .int .u64 x2, .int .u64 x3]], k => ((U64 x0.val) ∧ (U64 x1.val) ∧ (U64 x2.val) ∧ (U64 x3.val)) ∧ (∀ r0 : Int, r0 = ((val4 x0.val x1.val x2.val x3.val) / 2) → k (.agg [.int .u64 (.sym (limb r0 0)), .int .u64 (.sym (limb r0 1)), .int .u64 (.sym (limb r0 2)), .int .u64 (.sym (limb r0 3))]))
  | _, _ => False
def VCHalf (x0 : Int) (x1 : Int) (x2 : Int) (x3 : Int) : Prop :=
  ∀ v1, v1 = shrI IntKind.u64 x0 (1 : Int) -> ∀ v2, v2 = shlI IntKind.u64 x1 (63 : Int) -> ∀ v3, v3 = bitI BinOp.or IntKind.u64 v1 v2 -> ∀ v4, v4 = shrI IntKind.u64 x1 (1 : Int) -> ∀ v5, v5 = shlI IntKind.u64 x2 (63 : Int) -> ∀ v6, v6 = bitI BinOp.or IntKind.u64 v4 v5 -> ∀ v7, v7 = shrI IntKind.u64 x2 (1 : Int) -> ∀ v8, v8 = shlI IntKind.u64 x3 (63 : Int) -> ∀ v9, v9 = bitI BinOp.or IntKind.u64 v7 v8 -> ∀ v10, v10 = shrI IntKind.u64 x3 (1 : Int) -> (IntKind.u64 = IntKind.u64 /\ v3 = limb (val4 x0 x1 x2 x3 / (2 : Int)) 0) /\ (IntKind.u64 = IntKind.u64 /\ v6 = limb (val4 x0 x1 x2 x3 / (2 : Int)) 1) /\ (IntKind.u64 = IntKind.u64 /\ v9 = limb (val4 x0 x1 x2 x3 / (2 : Int)) 2) /\ (IntKind.u64 = IntKind.u64 /\ v10 = limb (val4 x0 x1 x2 x3 / (2 : Int)) 3) /\ True
theorem tieHalf (w0 : World) (x0 : Int) (x1 : Int) (x2 : Int) (x3 : Int) : VCHalf x0 x1 x2 x3 = ((recN (GC Try.prog ref4Spec w0) 40).call 132 [.agg [.int .u64 (.sym x0), .int .u64 (.sym x1), .int .u64 (.sym x2), .int .u64 (.sym x3)]] [] (fun r__ _ => eqV r__ (.agg [.int .u64 (.sym (limb ((val4 x0 x1 x2 x3) / 2) 0)), .int .u64 (.sym (limb ((val4 x0 x1 x2 x3) / 2) 1)), .int .u64 (.sym (limb ((val4 x0 x1 x2 x3) / 2) 2)), .int .u64 (.sym (limb ((val4 x0 x1 x2 x3) / 2) 3))]))) := by kernel_rfl
theorem shrC {x : Int} {j : Nat} {u w a b c : Int} (hu : u = limb x j) (hw : w = limb x (j + 1)) (ha : a = shrI .u64 u 1) (hb : b = shlI .u64 w 63) (hc : c = bitI .or .u64 a b) : c = limb (x / 2) j := by
  subst hu; subst hw; exact shr1 x j a b c ha hb hc
theorem pureHalf (x0 x1 x2 x3 : Int) (h : U64 x0 ∧ U64 x1 ∧ U64 x2 ∧ U64 x3) : VCHalf x0 x1 x2 x3 := by
  obtain ⟨h0, h1, h2, h3⟩ := h
  have b := val4_lt h0 h1 h2 h3
  obtain ⟨l0, l1, l2, l3⟩ := limbs4' h0 h1 h2 h3
  intro v1 e1 v2 e2 v3 e3 v4 e4 v5 e5 v6 e6 v7 e7 v8 e8 v9 e9 v10 e10
  exact ⟨⟨rfl, shrC (j := 0) l0.symm l1.symm e1 e2 e3⟩, ⟨rfl, shrC (j := 1) l1.symm l2.symm e4 e5 e6⟩, ⟨rfl, shrC (j := 2) l2.symm l3.symm e7 e8 e9⟩, ⟨rfl, shr1_top b.1 b.2 v10 (by rw [e10, l3])⟩, trivial⟩
theorem half_ok : SpecOk Try.prog 132 halfSpec := by
  intro args k h
  unfold halfSpec at h
  split at h
  · rename_i x0 x1 x2 x3
    obtain ⟨hr, h⟩ := h
    exact ⟨_, h _ rfl, PureOk.of_tie (GC Try.prog ref4Spec) (fun w__ => gok w__ namesOk_ mixed_ ref4_ok) (fun _ => rfl) (fun _ => rfl) (args' := [.agg [.int .u64 (.sym x0.val), .int .u64 (.sym x1.val), .int .u64 (.sym x2.val), .int .u64 (.sym x3.val)]]) ⟨⟨⟨rfl, rfl⟩, ⟨rfl, rfl⟩, ⟨rfl, rfl⟩, ⟨rfl, rfl⟩, trivial⟩, trivial⟩ 40 (fun w__ => VCHalf x0.val x1.val x2.val x3.val) (fun w__ => tieHalf w__ x0.val x1.val x2.val x3.val) (fun w__ => pureHalf x0.val x1.val x2.val x3.val hr)⟩
  · exact h.elim

def halvedSpec : CSpec
  | [.agg [.int .u64 x0, .int .u64 x1, .int .u64 x2, .int .u64 x3], .agg [.int .u64 m0, .int .u64 m1, .int .u64 m2, .int .u64 m3]], k => ((U64 x0.val) ∧ (U64 x1.val) ∧ (U64 x2.val) ∧ (U64 x3.val) ∧ (U64 m0.val) ∧ (U64 m1.val) ∧ (U64 m2.val) ∧ (U64 m3.val)) ∧ (∀ r0 : Int, r0 = (hvF (val4 x0.val x1.val x2.val x3.val) (val4 m0.val m1.val m2.val m3.val)) → k (.agg [.int .u64 (.sym (limb r0 0)), .int .u64 (.sym (limb r0 1)), .int .u64 (.sym (limb r0 2)), .int .u64 (.sym (limb r0 3))]))
  | _, _ => False
def VCHalved (x0 : Int) (x1 : Int) (x2 : Int) (x3 : Int) (m0 : Int) (m1 : Int) (m2 : Int) (m3 : Int) : Prop :=
  ∀ v1, v1 = x0.tmod (2 : Int) -> ∀ v2, v2 = (v1 == (1 : Int)) -> ((v2 = true -> (U64 x0 /\ U64 x1 /\ U64 x2 /\ U64 x3 /\ U64 m0 /\ U64 m1 /\ U64 m2 /\ U64 m3) /\ ∀ v3, v3 = val4 x0 x1 x2 x3 + val4 m0 m1 m2 m3 -> ∀ v4, v4 = (val4 x0 x1 x2 x3 + val4 m0 m1 m2 m3) / (115792089237316195423570985008687907853269984665640564039457584007913129639936 : Int) -> ∃ (x5 : Int × Int), (x5 = if val4 x0 x1 x2 x3 % (2 : Int) = (1 : Int) then ((val4 x0 x1 x2 x3 + val4 m0 m1 m2 m3) % (115792089237316195423570985008687907853269984665640564039457584007913129639936 : Int), (val4 x0 x1 x2 x3 + val4 m0 m1 m2 m3) / (115792089237316195423570985008687907853269984665640564039457584007913129639936 : Int)) else (val4 x0 x1 x2 x3, (0 : Int))) /\ (True /\ True /\ True /\ v4 = x5.snd /\ True) /\ (limb v3 0 = limb x5.fst 0 /\ limb v3 1 = limb x5.fst 1 /\ limb v3 2 = limb x5.fst 2 /\ limb v3 3 = limb x5.fst 3 /\ True) /\ (m0 = m0 /\ m1 = m1 /\ m2 = m2 /\ m3 = m3 /\ True) /\ ((0 : Int) = (0 : Int) /\ (0 : Int) = (0 : Int) /\ (0 : Int) = (0 : Int) /\ (0 : Int) = (0 : Int) /\ True) /\ True) /\ (v2 = false -> ∃ (x6 : Int × Int), (x6 = if val4 x0 x1 x2 x3 % (2 : Int) = (1 : Int) then ((val4 x0 x1 x2 x3 + val4 m0 m1 m2 m3) % (115792089237316195423570985008687907853269984665640564039457584007913129639936 : Int), (val4 x0 x1 x2 x3 + val4 m0 m1 m2 m3) / (115792089237316195423570985008687907853269984665640564039457584007913129639936 : Int)) else (val4 x0 x1 x2 x3, (0 : Int))) /\ (True /\ True /\ True /\ (0 : Int) = x6.snd /\ True) /\ (x0 = limb x6.fst 0 /\ x1 = limb x6.fst 1 /\ x2 = limb x6.fst 2 /\ x3 = limb x6.fst 3 /\ True) /\ (m0 = m0 /\ m1 = m1 /\ m2 = m2 /\ m3 = m3 /\ True) /\ ((0 : Int) = (0 : Int) /\ (0 : Int) = (0 : Int) /\ (0 : Int) = (0 : Int) /\ (0 : Int) = (0 : Int) /\ True) /\ True)) /\ ∀ (v7 : Int × Int), (v7 = if val4 x0 x1 x2 x3 % (2 : Int) = (1 : Int) then ((val4 x0 x1 x2 x3 + val4 m0 m1 m2 m3) % (115792089237316195423570985008687907853269984665640564039457584007913129639936 : Int), (val4 x0 x1 x2 x3 + val4 m0 m1 m2 m3) / (115792089237316195423570985008687907853269984665640564039457584007913129639936 : Int)) else (val4 x0 x1 x2 x3, (0 : Int))) -> ∀ v8, v8 = shrI IntKind.u64 (limb v7.fst 0) (1 : Int) -> ∀ v9, v9 = shlI IntKind.u64 (limb v7.fst 1) (63 : Int) -> ∀ v10, v10 = bitI BinOp.or IntKind.u64 v8 v9 -> ∀ v11, v11 = shrI IntKind.u64 (limb v7.fst 1) (1 : Int) -> ∀ v12, v12 = shlI IntKind.u64 (limb v7.fst 2) (63 : Int) -> ∀ v13, v13 = bitI BinOp.or IntKind.u64 v11 v12 -> ∀ v14, v14 = shrI IntKind.u64 (limb v7.fst 2) (1 : Int) -> ∀ v15, v15 = shlI IntKind.u64 (limb v7.fst 3) (63 : Int) -> ∀ v16, v16 = bitI BinOp.or IntKind.u64 v14 v15 -> ∀ v17, v17 = shrI IntKind.u64 (limb v7.fst 3) (1 : Int) -> ∀ v18, v18 = shlI IntKind.u64 v7.snd (63 : Int) -> ∀ v19, v19 = bitI BinOp.or IntKind.u64 v17 v18 -> (IntKind.u64 = IntKind.u64 /\ v10 = limb (hvF (val4 x0 x1 x2 x3) (val4 m0 m1 m2 m3)) 0) /\ (IntKind.u64 = IntKind.u64 /\ v13 = limb (hvF (val4 x0 x1 x2 x3) (val4 m0 m1 m2 m3)) 1) /\ (IntKind.u64 = IntKind.u64 /\ v16 = limb (hvF (val4 x0 x1 x2 x3) (val4 m0 m1 m2 m3)) 2) /\ (IntKind.u64 = IntKind.u64 /\ v19 = limb (hvF (val4 x0 x1 x2 x3) (val4 m0 m1 m2 m3)) 3) /\ True
theorem tieHalved (w0 : World) (x0 : Int) (x1 : Int) (x2 : Int) (x3 : Int) (m0 : Int) (m1 : Int) (m2 : Int) (m3 : Int) : VCHalved x0 x1 x2 x3 m0 m1 m2 m3 = ((recN (GL Try.prog ref4Spec hvAnnSpec hvCutSpec w0) 40).call 133 [.agg [.int .u64 (.sym x0), .int .u64 (.sym x1), .int .u64 (.sym x2), .int .u64 (.sym x3)], .agg [.int .u64 (.sym m0), .int .u64 (.sym m1), .int .u64 (.sym m2), .int .u64 (.sym m3)]] [] (fun r__ _ => eqV r__ (.agg [.int .u64 (.sym (limb (hvF (val4 x0 x1 x2 x3) (val4 m0 m1 m2 m3)) 0)), .int .u64 (.sym (limb (hvF (val4 x0 x1 x2 x3) (val4 m0 m1 m2 m3)) 1)), .int .u64 (.sym (limb (hvF (val4 x0 x1 x2 x3) (val4 m0 m1 m2 m3)) 2)), .int .u64 (.sym (limb (hvF (val4 x0 x1 x2 x3) (val4 m0 m1 m2 m3)) 3))]))) := by kernel_rfl
theorem par4 {x0 x1 x2 x3 : Int} (h0 : U64 x0) : (x0.tmod 2 = 1) = (val4 x0 x1 x2 x3 % 2 = 1) := by
  unfold U64 at h0
  rw [Int.tmod_eq_emod_of_nonneg h0.1]
  unfold val4; apply propext; constructor <;> intro h <;> omega
theorem hvEnd {p : Int × Int} {w : Int} (hw : w = p.1 + p.2 * 115792089237316195423570985008687907853269984665640564039457584007913129639936) (h2 : 0 ≤ p.2 ∧ p.2 ≤ 1) (h1 : 0 ≤ p.1 ∧ p.1 < 115792089237316195423570985008687907853269984665640564039457584007913129639936) : ∀ v8, v8 = shrI IntKind.u64 (limb p.1 0) 1 → ∀ v9, v9 = shlI IntKind.u64 (limb p.1 1) 63 → ∀ v10, v10 = bitI BinOp.or IntKind.u64 v8 v9 → ∀ v11, v11 = shrI IntKind.u64 (limb p.1 1) 1 → ∀ v12, v12 = shlI IntKind.u64 (limb p.1 2) 63 → ∀ v13, v13 = bitI BinOp.or IntKind.u64 v11 v12 → ∀ v14, v14 = shrI IntKind.u64 (limb p.1 2) 1 → ∀ v15, v15 = shlI IntKind.u64 (limb p.1 3) 63 → ∀ v16, v16 = bitI BinOp.or IntKind.u64 v14 v15 → ∀ v17, v17 = shrI IntKind.u64 (limb p.1 3) 1 → ∀ v18, v18 = shlI IntKind.u64 p.2 63 → ∀ v19, v19 = bitI BinOp.or IntKind.u64 v17 v18 → (IntKind.u64 = IntKind.u64 ∧ v10 = limb (w / 2) 0) ∧ (IntKind.u64 = IntKind.u64 ∧ v13 = limb (w / 2) 1) ∧ (IntKind.u64 = IntKind.u64 ∧ v16 = limb (w / 2) 2) ∧ (IntKind.u64 = IntKind.u64 ∧ v19 = limb (w / 2) 3) ∧ True := by
  obtain ⟨s, c⟩ := p
  dsimp only at *
  intro v8 e8 v9 e9 v10 e10 v11 e11 v12 e12 v13 e13 v14 e14 v15 e15 v16 e16 v17 e17 v18 e18 v19 e19
  obtain ⟨a0, a1, a2, a3⟩ := limbE s
  obtain ⟨b0, b1, b2, b3⟩ := limbE w
  have l0 : limb s 0 = limb w 0 := by rw [a0, b0]; omega
  have l1 : limb s 1 = limb w 1 := by rw [a1, b1]; omega
  have l2 : limb s 2 = limb w 2 := by rw [a2, b2]; omega
  have l3 : limb s 3 = limb w 3 := by rw [a3, b3]; omega
  have l4 : c = limb w 4 := by
    have : limb w 4 = w / 115792089237316195423570985008687907853269984665640564039457584007913129639936 % 18446744073709551616 := rfl
    rw [this]; omega
  exact ⟨⟨rfl, shrC (j := 0) l0 l1 e8 e9 e10⟩, ⟨rfl, shrC (j := 1) l1 l2 e11 e12 e13⟩, ⟨rfl, shrC (j := 2) l2 l3 e14 e15 e16⟩, ⟨rfl, shrC (j := 3) l3 l4 e17 e18 e19⟩, trivial⟩
theorem pureHalved (x0 x1 x2 x3 m0 m1 m2 m3 : Int) (h : U64 x0 ∧ U64 x1 ∧ U64 x2 ∧ U64 x3 ∧ U64 m0 ∧ U64 m1 ∧ U64 m2 ∧ U64 m3) : VCHalved x0 x1 x2 x3 m0 m1 m2 m3 := by
  obtain ⟨h0, h1, h2, h3, hm0, hm1, hm2, hm3⟩ := h
  have b := val4_lt h0 h1 h2 h3
  have bm := val4_lt hm0 hm1 hm2 hm3
  obtain ⟨l0, l1, l2, l3⟩ := limbs4' h0 h1 h2 h3
  have pe := par4 (x1 := x1) (x2 := x2) (x3 := x3) h0
  rintro v1 rfl v2 hv2
  refine ⟨brE (fun c => ?_) (fun c => ?_) v2 hv2, ?_⟩
  · rw [pe] at c
    refine ⟨⟨h0, h1, h2, h3, hm0, hm1, hm2, hm3⟩, fun v3 e3 v4 e4 => ⟨_, (if_pos c).symm, ⟨trivial, trivial, trivial, e4, trivial⟩, ?_, ⟨rfl, rfl, rfl, rfl, trivial⟩, ⟨rfl, rfl, rfl, rfl, trivial⟩, trivial⟩⟩
    obtain ⟨⟨_, k0⟩, ⟨_, k1⟩, ⟨_, k2⟩, ⟨_, k3⟩, _⟩ := limb_cong (x := v3) (y := (val4 x0 x1 x2 x3 + val4 m0 m1 m2 m3) % 115792089237316195423570985008687907853269984665640564039457584007913129639936) (by rw [e3]; omega)
    exact ⟨k0, k1, k2, k3, trivial⟩
  · have c : ¬ val4 x0 x1 x2 x3 % 2 = 1 := fun z => c (pe ▸ z)
    exact ⟨_, (if_neg c).symm, ⟨trivial, trivial, trivial, rfl, trivial⟩, ⟨l0.symm, l1.symm, l2.symm, l3.symm, trivial⟩, ⟨rfl, rfl, rfl, rfl, trivial⟩, ⟨rfl, rfl, rfl, rfl, trivial⟩, trivial⟩
  · intro p hp
    have key : ∃ w, hvF (val4 x0 x1 x2 x3) (val4 m0 m1 m2 m3) = w / 2 ∧ w = p.1 + p.2 * 115792089237316195423570985008687907853269984665640564039457584007913129639936 ∧ (0 ≤ p.2 ∧ p.2 ≤ 1) ∧ (0 ≤ p.1 ∧ p.1 < 115792089237316195423570985008687907853269984665640564039457584007913129639936) := by
      by_cases c : val4 x0 x1 x2 x3 % 2 = 1
      · rw [if_pos c] at hp
        refine ⟨val4 x0 x1 x2 x3 + val4 m0 m1 m2 m3, by unfold hvF; rw [if_pos c], ?_⟩
        rw [hp]; dsimp only; omega
      · rw [if_neg c] at hp
        refine ⟨val4 x0 x1 x2 x3, by unfold hvF; rw [if_neg c], ?_⟩
        rw [hp]; dsimp only; omega
    obtain ⟨w, e, k1, k2, k3⟩ := key
    rw [e]
    exact hvEnd k1 k2 k3
theorem halved_ok : SpecOk Try.prog 133 halvedSpec := by
  intro args k h
  unfold halvedSpec at h
  split at h
  · rename_i x0 x1 x2 x3 m0 m1 m2 m3
    obtain ⟨hr, h⟩ := h
    exact ⟨_, h _ rfl, PureOk.of_tie (GL Try.prog ref4Spec hvAnnSpec hvCutSpec) (fun w__ => gokL w__ namesOk_ mixed_ ref4_ok) (fun _ => rfl) (fun _ => rfl) (args' := [.agg [.int .u64 (.sym x0.val), .int .u64 (.sym x1.val), .int .u64 (.sym x2.val), .int .u64 (.sym x3.val)], .agg [.int .u64 (.sym m0.val), .int .u64 (.sym m1.val), .int .u64 (.sym m2.val), .int .u64 (.sym m3.val)]]) ⟨⟨⟨rfl, rfl⟩, ⟨rfl, rfl⟩, ⟨rfl, rfl⟩, ⟨rfl, rfl⟩, trivial⟩, ⟨⟨rfl, rfl⟩, ⟨rfl, rfl⟩, ⟨rfl, rfl⟩, ⟨rfl, rfl⟩, trivial⟩, trivial⟩ 40 (fun w__ => VCHalved x0.val x1.val x2.val x3.val m0.val m1.val m2.val m3.val) (fun w__ => tieHalved w__ x0.val x1.val x2.val x3.val m0.val m1.val m2.val m3.val) (fun w__ => pureHalved x0.val x1.val x2.val x3.val m0.val m1.val m2.val m3.val hr)⟩
  · exact h.elim

def lessSpec : CSpec
  | [.agg [.int .u64 a0, .int .u64 a1, .int .u64 a2, .int .u64 a3], .agg [.int .u64 b0, .int .u64 b1, .int .u64 b2, .int .u64 b3], .agg [.int .u64 m0, .int .u64 m1, .int .u64 m2, .int .u64 m3]], k => ((U64 a0.val) ∧ (U64 a1.val) ∧ (U64 a2.val) ∧ (U64 a3.val) ∧ (U64 b0.val) ∧ (U64 b1.val) ∧ (U64 b2.val) ∧ (U64 b3.val) ∧ (U64 m0.val) ∧ (U64 m1.val) ∧ (U64 m2.val) ∧ (U64 m3.val)) ∧ (∀ r0 : Int, r0 = (lsF (val4 a0.val a1.val a2.val a3.val) (val4 b0.val b1.val b2.val b3.val) (val4 m0.val m1.val m2.val m3.val)) → k (.agg [.int .u64 (.sym (limb r0 0)), .int .u64 (.sym (limb r0 1)), .int .u64 (.sym (limb r0 2)), .int .u64 (.sym (limb r0 3))]))
  | _, _ => False
def VCLess (a0 : Int) (a1 : Int) (a2 : Int) (a3 : Int) (b0 : Int) (b1 : Int) (b2 : Int) (b3 : Int) (m0 : Int) (m1 : Int) (m2 : Int) (m3 : Int) : Prop :=
  (U64 a0 /\ U64 a1 /\ U64 a2 /\ U64 a3 /\ U64 b0 /\ U64 b1 /\ U64 b2 /\ U64 b3) /\ ∀ v1, v1 = val4 a0 a1 a2 a3 - val4 b0 b1 b2 b3 -> ∀ (v2 : Int), (v2 = if val4 a0 a1 a2 a3 < val4 b0 b1 b2 b3 then 1 else 0) -> ∀ v3, v3 = (v2 == (1 : Int)) -> (v3 = true -> (U64 (limb v1 0) /\ U64 (limb v1 1) /\ U64 (limb v1 2) /\ U64 (limb v1 3) /\ U64 m0 /\ U64 m1 /\ U64 m2 /\ U64 m3) /\ ∀ v4, v4 = val4 (limb v1 0) (limb v1 1) (limb v1 2) (limb v1 3) + val4 m0 m1 m2 m3 -> ∀ v5, v5 = (val4 (limb v1 0) (limb v1 1) (limb v1 2) (limb v1 3) + val4 m0 m1 m2 m3) / (115792089237316195423570985008687907853269984665640564039457584007913129639936 : Int) -> (IntKind.u64 = IntKind.u64 /\ limb v4 0 = limb (lsF (val4 a0 a1 a2 a3) (val4 b0 b1 b2 b3) (val4 m0 m1 m2 m3)) 0) /\ (IntKind.u64 = IntKind.u64 /\ limb v4 1 = limb (lsF (val4 a0 a1 a2 a3) (val4 b0 b1 b2 b3) (val4 m0 m1 m2 m3)) 1) /\ (IntKind.u64 = IntKind.u64 /\ limb v4 2 = limb (lsF (val4 a0 a1 a2 a3) (val4 b0 b1 b2 b3) (val4 m0 m1 m2 m3)) 2) /\ (IntKind.u64 = IntKind.u64 /\ limb v4 3 = limb (lsF (val4 a0 a1 a2 a3) (val4 b0 b1 b2 b3) (val4 m0 m1 m2 m3)) 3) /\ True) /\ (v3 = false -> (IntKind.u64 = IntKind.u64 /\ limb v1 0 = limb (lsF (val4 a0 a1 a2 a3) (val4 b0 b1 b2 b3) (val4 m0 m1 m2 m3)) 0) /\ (IntKind.u64 = IntKind.u64 /\ limb v1 1 = limb (lsF (val4 a0 a1 a2 a3) (val4 b0 b1 b2 b3) (val4 m0 m1 m2 m3)) 1) /\ (IntKind.u64 = IntKind.u64 /\ limb v1 2 = limb (lsF (val4 a0 a1 a2 a3) (val4 b0 b1 b2 b3) (val4 m0 m1 m2 m3)) 2) /\ (IntKind.u64 = IntKind.u64 /\ limb v1 3 = limb (lsF (val4 a0 a1 a2 a3) (val4 b0 b1 b2 b3) (val4 m0 m1 m2 m3)) 3) /\ True)
theorem tieLess (w0 : World) (a0 : Int) (a1 : Int) (a2 : Int) (a3 : Int) (b0 : Int) (b1 : Int) (b2 : Int) (b3 : Int) (m0 : Int) (m1 : Int) (m2 : Int) (m3 : Int) : VCLess a0 a1 a2 a3 b0 b1 b2 b3 m0 m1 m2 m3 = ((recN (GC Try.prog ref4Spec w0) 40).call 134 [.agg [.int .u64 (.sym a0), .int .u64 (.sym a1), .int .u64 (.sym a2), .int .u64 (.sym a3)], .agg [.int .u64 (.sym b0), .int .u64 (.sym b1), .int .u64 (.sym b2), .int .u64 (.sym b3)], .agg [.int .u64 (.sym m0), .int .u64 (.sym m1), .int .u64 (.sym m2), .int .u64 (.sym m3)]] [] (fun r__ _ => eqV r__ (.agg [.int .u64 (.sym (limb (lsF (val4 a0 a1 a2 a3) (val4 b0 b1 b2 b3) (val4 m0 m1 m2 m3)) 0)), .int .u64 (.sym (limb (lsF (val4 a0 a1 a2 a3) (val4 b0 b1 b2 b3) (val4 m0 m1 m2 m3)) 1)), .int .u64 (.sym (limb (lsF (val4 a0 a1 a2 a3) (val4 b0 b1 b2 b3) (val4 m0 m1 m2 m3)) 2)), .int .u64 (.sym (limb (lsF (val4 a0 a1 a2 a3) (val4 b0 b1 b2 b3) (val4 m0 m1 m2 m3)) 3))]))) := by kernel_rfl
theorem pureLess (a0 a1 a2 a3 b0 b1 b2 b3 m0 m1 m2 m3 : Int) (h : U64 a0 ∧ U64 a1 ∧ U64 a2 ∧ U64 a3 ∧ U64 b0 ∧ U64 b1 ∧ U64 b2 ∧ U64 b3 ∧ U64 m0 ∧ U64 m1 ∧ U64 m2 ∧ U64 m3) : VCLess a0 a1 a2 a3 b0 b1 b2 b3 m0 m1 m2 m3 := by
  obtain ⟨ha0, ha1, ha2, ha3, hb0, hb1, hb2, hb3, hm0, hm1, hm2, hm3⟩ := h
  refine ⟨⟨ha0, ha1, ha2, ha3, hb0, hb1, hb2, hb3⟩, fun v1 e1 v2 e2 => ?_⟩
  refine brE (fun c => ⟨⟨limb_in .., limb_in .., limb_in .., limb_in .., hm0, hm1, hm2, hm3⟩, fun v4 e4 v5 e5 => limb_cong ?_⟩) fun c => limb_cong ?_
  · have hlt : val4 a0 a1 a2 a3 < val4 b0 b1 b2 b3 := by
      rw [e2] at c
      split at c <;> omega
    unfold lsF; rw [if_pos hlt, e4, val4_limb, e1]; omega
  · have hlt : ¬ val4 a0 a1 a2 a3 < val4 b0 b1 b2 b3 := by
      rw [e2] at c
      split at c <;> omega
    unfold lsF; rw [if_neg hlt, e1]
theorem less_ok : SpecOk Try.prog 134 lessSpec := by
  intro args k h
  unfold lessSpec at h
  split at h
  · rename_i a0 a1 a2 a3 b0 b1 b2 b3 m0 m1 m2 m3
    obtain ⟨hr, h⟩ := h
    exact ⟨_, h _ rfl, PureOk.of_tie (GC Try.prog ref4Spec) (fun w__ => gok w__ namesOk_ mixed_ ref4_ok) (fun _ => rfl) (fun _ => rfl) (args' := [.agg [.int .u64 (.sym a0.val), .int .u64 (.sym a1.val), .int .u64 (.sym a2.val), .int .u64 (.sym a3.val)], .agg [.int .u64 (.sym b0.val), .int .u64 (.sym b1.val), .int .u64 (.sym b2.val), .int .u64 (.sym b3.val)], .agg [.int .u64 (.sym m0.val), .int .u64 (.sym m1.val), .int .u64 (.sym m2.val), .int .u64 (.sym m3.val)]]) ⟨⟨⟨rfl, rfl⟩, ⟨rfl, rfl⟩, ⟨rfl, rfl⟩, ⟨rfl, rfl⟩, trivial⟩, ⟨⟨rfl, rfl⟩, ⟨rfl, rfl⟩, ⟨rfl, rfl⟩, ⟨rfl, rfl⟩, trivial⟩, ⟨⟨rfl, rfl⟩, ⟨rfl, rfl⟩, ⟨rfl, rfl⟩, ⟨rfl, rfl⟩, trivial⟩, trivial⟩ 40 (fun w__ => VCLess a0.val a1.val a2.val a3.val b0.val b1.val b2.val b3.val m0.val m1.val m2.val m3.val) (fun w__ => tieLess w__ a0.val a1.val a2.val a3.val b0.val b1.val b2.val b3.val m0.val m1.val m2.val m3.val) (fun w__ => pureLess a0.val a1.val a2.val a3.val b0.val b1.val b2.val b3.val m0.val m1.val m2.val m3.val hr)⟩
  · exact h.elim

def r2PowSpec : CSpec
  | [.agg [.int .u64 a0, .int .u64 a1, .int .u64 a2, .int .u64 a3], .agg [.int .u64 e0, .int .u64 e1, .int .u64 e2, .int .u64 e3], .agg [.int .u64 m0, .int .u64 m1, .int .u64 m2, .int .u64 m3]], k => ((U64 a0.val) ∧ (U64 a1.val) ∧ (U64 a2.val) ∧ (U64 a3.val) ∧ (U64 e0.val) ∧ (U64 e1.val) ∧ (U64 e2.val) ∧ (U64 e3.val) ∧ (U64 m0.val) ∧ (U64 m1.val) ∧ (U64 m2.val) ∧ (U64 m3.val)) ∧ (∀ r0 : Int, r0 = (powF (val4 a0.val a1.val a2.val a3.val) (val4 e0.val e1.val e2.val e3.val) (val4 m0.val m1.val m2.val m3.val)) → k (.agg [.int .u64 (.sym (limb r0 0)), .int .u64 (.sym (limb r0 1)), .int .u64 (.sym (limb r0 2)), .int .u64 (.sym (limb r0 3))]))
  | _, _ => False
def VCR2Pow (a0 : Int) (a1 : Int) (a2 : Int) (a3 : Int) (e0 : Int) (e1 : Int) (e2 : Int) (e3 : Int) (m0 : Int) (m1 : Int) (m2 : Int) (m3 : Int) : Prop :=
  (U64 1 /\ U64 0 /\ U64 0 /\ U64 0 /\ U64 0 /\ U64 0 /\ U64 0 /\ U64 0 /\ U64 m0 /\ U64 m1 /\ U64 m2 /\ U64 m3) /\ ∀ v1, v1 = rF (1 : Int) (0 : Int) (val4 m0 m1 m2 m3) -> (U64 e0 /\ U64 e1 /\ U64 e2 /\ U64 e3) /\ ∀ v2, v2 = lenF (val4 e0 e1 e2 e3) -> ∀ v3, v3 = IntKind.i64.wrap (v2 - (1 : Int)) -> (∃ (x4 : Int × Int), (((-1 : Int) ≤ x4.fst /\ x4.fst ≤ (255 : Int)) /\ x4.snd = powF (val4 a0 a1 a2 a3) (val4 e0 e1 e2 e3 / (2 : Int) ^ (x4.fst + (1 : Int)).toNat) (val4 m0 m1 m2 m3)) /\ (True /\ True /\ True /\ True /\ True /\ v3 = x4.fst /\ True) /\ (a0 = a0 /\ a1 = a1 /\ a2 = a2 /\ a3 = a3 /\ True) /\ (e0 = e0 /\ e1 = e1 /\ e2 = e2 /\ e3 = e3 /\ True) /\ (m0 = m0 /\ m1 = m1 /\ m2 = m2 /\ m3 = m3 /\ True) /\ ((0 : Int) = (0 : Int) /\ (0 : Int) = (0 : Int) /\ (0 : Int) = (0 : Int) /\ (0 : Int) = (0 : Int) /\ True) /\ (limb v1 0 = limb x4.snd 0 /\ limb v1 1 = limb x4.snd 1 /\ limb v1 2 = limb x4.snd 2 /\ limb v1 3 = limb x4.snd 3 /\ True) /\ True) /\ ∀ (v5 : Int × Int), ((-1 : Int) ≤ v5.fst /\ v5.fst ≤ (255 : Int)) /\ v5.snd = powF (val4 a0 a1 a2 a3) (val4 e0 e1 e2 e3 / (2 : Int) ^ (v5.fst + (1 : Int)).toNat) (val4 m0 m1 m2 m3) -> ∀ v6, v6 = decide (v5.fst ≥ (0 : Int)) -> (v6 = true -> (U64 (limb v5.snd 0) /\ U64 (limb v5.snd 1) /\ U64 (limb v5.snd 2) /\ U64 (limb v5.snd 3) /\ U64 (limb v5.snd 0) /\ U64 (limb v5.snd 1) /\ U64 (limb v5.snd 2) /\ U64 (limb v5.snd 3) /\ U64 m0 /\ U64 m1 /\ U64 m2 /\ U64 m3) /\ ∀ v7, v7 = modF (val4 (limb v5.snd 0) (limb v5.snd 1) (limb v5.snd 2) (limb v5.snd 3) * val4 (limb v5.snd 0) (limb v5.snd 1) (limb v5.snd 2) (limb v5.snd 3)) (val4 m0 m1 m2 m3) -> (U64 e0 /\ U64 e1 /\ U64 e2 /\ U64 e3 /\ I64 v5.fst) /\ ∀ v8, v8 = bitF (val4 e0 e1 e2 e3) v5.fst -> ∀ v9, v9 = (v8 == (1 : Int)) -> (v9 = true -> (U64 (limb v7 0) /\ U64 (limb v7 1) /\ U64 (limb v7 2) /\ U64 (limb v7 3) /\ U64 a0 /\ U64 a1 /\ U64 a2 /\ U64 a3 /\ U64 m0 /\ U64 m1 /\ U64 m2 /\ U64 m3) /\ ∀ v10, v10 = modF (val4 (limb v7 0) (limb v7 1) (limb v7 2) (limb v7 3) * val4 a0 a1 a2 a3) (val4 m0 m1 m2 m3) -> ∀ v11, v11 = IntKind.i64.wrap (v5.fst - (1 : Int)) -> ∃ (x12 : Int × Int), (((-1 : Int) ≤ x12.fst /\ x12.fst ≤ (255 : Int)) /\ x12.snd = powF (val4 a0 a1 a2 a3) (val4 e0 e1 e2 e3 / (2 : Int) ^ (x12.fst + (1 : Int)).toNat) (val4 m0 m1 m2 m3)) /\ ((True /\ True /\ True /\ True /\ True /\ v11 = x12.fst /\ True) /\ (a0 = a0 /\ a1 = a1 /\ a2 = a2 /\ a3 = a3 /\ True) /\ (e0 = e0 /\ e1 = e1 /\ e2 = e2 /\ e3 = e3 /\ True) /\ (m0 = m0 /\ m1 = m1 /\ m2 = m2 /\ m3 = m3 /\ True) /\ ((0 : Int) = (0 : Int) /\ (0 : Int) = (0 : Int) /\ (0 : Int) = (0 : Int) /\ (0 : Int) = (0 : Int) /\ True) /\ (limb v10 0 = limb x12.snd 0 /\ limb v10 1 = limb x12.snd 1 /\ limb v10 2 = limb x12.snd 2 /\ limb v10 3 = limb x12.snd 3 /\ True) /\ True) /\ (x12.fst + (1 : Int)).toNat < (v5.fst + (1 : Int)).toNat) /\ (v9 = false -> ∀ v13, v13 = IntKind.i64.wrap (v5.fst - (1 : Int)) -> ∃ (x14 : Int × Int), (((-1 : Int) ≤ x14.fst /\ x14.fst ≤ (255 : Int)) /\ x14.snd = powF (val4 a0 a1 a2 a3) (val4 e0 e1 e2 e3 / (2 : Int) ^ (x14.fst + (1 : Int)).toNat) (val4 m0 m1 m2 m3)) /\ ((True /\ True /\ True /\ True /\ True /\ v13 = x14.fst /\ True) /\ (a0 = a0 /\ a1 = a1 /\ a2 = a2 /\ a3 = a3 /\ True) /\ (e0 = e0 /\ e1 = e1 /\ e2 = e2 /\ e3 = e3 /\ True) /\ (m0 = m0 /\ m1 = m1 /\ m2 = m2 /\ m3 = m3 /\ True) /\ ((0 : Int) = (0 : Int) /\ (0 : Int) = (0 : Int) /\ (0 : Int) = (0 : Int) /\ (0 : Int) = (0 : Int) /\ True) /\ (limb v7 0 = limb x14.snd 0 /\ limb v7 1 = limb x14.snd 1 /\ limb v7 2 = limb x14.snd 2 /\ limb v7 3 = limb x14.snd 3 /\ True) /\ True) /\ (x14.fst + (1 : Int)).toNat < (v5.fst + (1 : Int)).toNat)) /\ (v6 = false -> (IntKind.u64 = IntKind.u64 /\ limb v5.snd 0 = limb (powF (val4 a0 a1 a2 a3) (val4 e0 e1 e2 e3) (val4 m0 m1 m2 m3)) 0) /\ (IntKind.u64 = IntKind.u64 /\ limb v5.snd 1 = limb (powF (val4 a0 a1 a2 a3) (val4 e0 e1 e2 e3) (val4 m0 m1 m2 m3)) 1) /\ (IntKind.u64 = IntKind.u64 /\ limb v5.snd 2 = limb (powF (val4 a0 a1 a2 a3) (val4 e0 e1 e2 e3) (val4 m0 m1 m2 m3)) 2) /\ (IntKind.u64 = IntKind.u64 /\ limb v5.snd 3 = limb (powF (val4 a0 a1 a2 a3) (val4 e0 e1 e2 e3) (val4 m0 m1 m2 m3)) 3) /\ True)
theorem tieR2Pow (w0 : World) (a0 : Int) (a1 : Int) (a2 : Int) (a3 : Int) (e0 : Int) (e1 : Int) (e2 : Int) (e3 : Int) (m0 : Int) (m1 : Int) (m2 : Int) (m3 : Int) : VCR2Pow a0 a1 a2 a3 e0 e1 e2 e3 m0 m1 m2 m3 = ((recN (GL Try.prog ref4Spec rPowAnnSpec rPowCutSpec w0) 40).call 21 [.agg [.int .u64 (.sym a0), .int .u64 (.sym a1), .int .u64 (.sym a2), .int .u64 (.sym a3)], .agg [.int .u64 (.sym e0), .int .u64 (.sym e1), .int .u64 (.sym e2), .int .u64 (.sym e3)], .agg [.int .u64 (.sym m0), .int .u64 (.sym m1), .int .u64 (.sym m2), .int .u64 (.sym m3)]] [] (fun r__ _ => eqV r__ (.agg [.int .u64 (.sym (limb (powF (val4 a0 a1 a2 a3) (val4 e0 e1 e2 e3) (val4 m0 m1 m2 m3)) 0)), .int .u64 (.sym (limb (powF (val4 a0 a1 a2 a3) (val4 e0 e1 e2 e3) (val4 m0 m1 m2 m3)) 1)), .int .u64 (.sym (limb (powF (val4 a0 a1 a2 a3) (val4 e0 e1 e2 e3) (val4 m0 m1 m2 m3)) 2)), .int .u64 (.sym (limb (powF (val4 a0 a1 a2 a3) (val4 e0 e1 e2 e3) (val4 m0 m1 m2 m3)) 3))]))) := by kernel_rfl
theorem pureR2Pow (a0 a1 a2 a3 e0 e1 e2 e3 m0 m1 m2 m3 : Int) (h : U64 a0 ∧ U64 a1 ∧ U64 a2 ∧ U64 a3 ∧ U64 e0 ∧ U64 e1 ∧ U64 e2 ∧ U64 e3 ∧ U64 m0 ∧ U64 m1 ∧ U64 m2 ∧ U64 m3) : VCR2Pow a0 a1 a2 a3 e0 e1 e2 e3 m0 m1 m2 m3 := by
  obtain ⟨ha0, ha1, ha2, ha3, he0, he1, he2, he3, hm0, hm1, hm2, hm3⟩ := h
  have ba := val4_lt ha0 ha1 ha2 ha3
  have be := val4_lt he0 he1 he2 he3
  have bm := val4_lt hm0 hm1 hm2 hm3
  have t4 : ∀ {x y z w : Int}, (x = x ∧ y = y ∧ z = z ∧ w = w ∧ True) := fun {x y z w} => ⟨rfl, rfl, rfl, rfl, trivial⟩
  refine ⟨⟨U64_1, U64_0, U64_0, U64_0, U64_0, U64_0, U64_0, U64_0, hm0, hm1, hm2, hm3⟩, fun v1 h1 => ⟨⟨he0, he1, he2, he3⟩, fun v2 h2 v3 h3 => ?_⟩⟩
  have ll := lenF_lt be.1
  have lb := (lenF_bound be.1 256 (by have := be.2; exact this)).2
  rw [← h2] at ll lb
  rw [i64_id (by omega) (by omega)] at h3
  refine ⟨⟨(v3, v1), ⟨⟨by dsimp only; omega, by dsimp only; omega⟩, ?_⟩, ⟨trivial, trivial, trivial, trivial, trivial, rfl, trivial⟩, t4, t4, t4, t4, t4, trivial⟩, fun ⟨i, out⟩ hp => ?_⟩
  · dsimp only
    rw [show v3 + 1 = v2 by omega, Int.ediv_eq_zero_of_lt be.1 ll.2, h1, rF_mod]
    unfold powF; simp
  dsimp only at hp ⊢
  obtain ⟨⟨i0, i1⟩, ho⟩ := hp
  have bo := powF_in (a := val4 a0 a1 a2 a3) (e := val4 e0 e1 e2 e3 / 2 ^ (i + 1).toNat) bm
  rw [← ho] at bo
  refine br (fun c => ?_) (fun c => limb_eq ?_)
  · have nn : 0 ≤ val4 e0 e1 e2 e3 / 2 ^ (i + 1).toNat := Int.ediv_nonneg be.1 (Int.le_of_lt (Int.pow_pos (by omega)))
    have dd : val4 e0 e1 e2 e3 / 2 ^ (i + 1).toNat = val4 e0 e1 e2 e3 / 2 ^ i.toNat / 2 := by
      rw [Int.ediv_ediv_of_nonneg (Int.le_of_lt (Int.pow_pos (by omega))), show (i + 1).toNat = i.toNat + 1 by omega, Int.pow_succ]
    refine ⟨⟨limb_in .., limb_in .., limb_in .., limb_in .., limb_in .., limb_in .., limb_in .., limb_in .., hm0, hm1, hm2, hm3⟩, fun v7 h7 => ⟨⟨he0, he1, he2, he3, by unfold I64; omega⟩, fun v8 h8 => ?_⟩⟩
    rw [val4_limb' bo.1 bo.2, ho, powF_dbl nn] at h7
    have b7 := powF_in (a := val4 a0 a1 a2 a3) (e := 2 * (val4 e0 e1 e2 e3 / 2 ^ (i + 1).toNat)) bm
    rw [← h7] at b7
    have hb : v8 = val4 e0 e1 e2 e3 / 2 ^ i.toNat % 2 := by rw [h8]; unfold bitF; rw [if_neg (by omega)]
    refine brE (fun c9 => ⟨⟨limb_in .., limb_in .., limb_in .., limb_in .., ha0, ha1, ha2, ha3, hm0, hm1, hm2, hm3⟩, fun v10 h10 v11 h11 => ?_⟩) fun c9 v13 h13 => ?_
    · rw [i64_id (by omega) (by omega)] at h11
      rw [val4_limb' b7.1 b7.2, h7, powF_one (by omega)] at h10
      refine ⟨(v11, v10), ⟨⟨by dsimp only; omega, by dsimp only; omega⟩, ?_⟩, ⟨⟨trivial, trivial, trivial, trivial, trivial, rfl, trivial⟩, t4, t4, t4, t4, t4, trivial⟩, by dsimp only; omega⟩
      dsimp only
      rw [h10, show v11 + 1 = i by omega]
      congr 1; omega
    · rw [i64_id (by omega) (by omega)] at h13
      refine ⟨(v13, v7), ⟨⟨by dsimp only; omega, by dsimp only; omega⟩, ?_⟩, ⟨⟨trivial, trivial, trivial, trivial, trivial, rfl, trivial⟩, t4, t4, t4, t4, t4, trivial⟩, by dsimp only; omega⟩
      dsimp only
      rw [h7, show v13 + 1 = i by omega]
      have : v8 = 0 := by omega
      congr 1; omega
  · rw [ho, show i + 1 = 0 by omega]
    simp
theorem r2Pow_ok : SpecOk Try.prog 21 r2PowSpec := by
  intro args k h
  unfold r2PowSpec at h
  split at h
  · rename_i a0 a1 a2 a3 e0 e1 e2 e3 m0 m1 m2 m3
    obtain ⟨hr, h⟩ := h
    exact ⟨_, h _ rfl, PureOk.of_tie (GL Try.prog ref4Spec rPowAnnSpec rPowCutSpec) (fun w__ => gokL w__ namesOk_ mixed_ ref4_ok) (fun _ => rfl) (fun _ => rfl) (args' := [.agg [.int .u64 (.sym a0.val), .int .u64 (.sym a1.val), .int .u64 (.sym a2.val), .int .u64 (.sym a3.val)], .agg [.int .u64 (.sym e0.val), .int .u64 (.sym e1.val), .int .u64 (.sym e2.val), .int .u64 (.sym e3.val)], .agg [.int .u64 (.sym m0.val), .int .u64 (.sym m1.val), .int .u64 (.sym m2.val), .int .u64 (.sym m3.val)]]) ⟨⟨⟨rfl, rfl⟩, ⟨rfl, rfl⟩, ⟨rfl, rfl⟩, ⟨rfl, rfl⟩, trivial⟩, ⟨⟨rfl, rfl⟩, ⟨rfl, rfl⟩, ⟨rfl, rfl⟩, ⟨rfl, rfl⟩, trivial⟩, ⟨⟨rfl, rfl⟩, ⟨rfl, rfl⟩, ⟨rfl, rfl⟩, ⟨rfl, rfl⟩, trivial⟩, trivial⟩ 40 (fun w__ => VCR2Pow a0.val a1.val a2.val a3.val e0.val e1.val e2.val e3.val m0.val m1.val m2.val m3.val) (fun w__ => tieR2Pow w__ a0.val a1.val a2.val a3.val e0.val e1.val e2.val e3.val m0.val m1.val m2.val m3.val) (fun w__ => pureR2Pow a0.val a1.val a2.val a3.val e0.val e1.val e2.val e3.val m0.val m1.val m2.val m3.val hr)⟩
  · exact h.elim

end Go.Proofs.Ytaaobpalpcdlbaa.Bits
