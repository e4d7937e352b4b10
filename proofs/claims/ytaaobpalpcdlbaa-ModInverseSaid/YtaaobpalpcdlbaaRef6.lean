/- Inverses: the document's, of all numbers; powers and inverses are the document's. -/
import Derived.Test.YtaaobpalpcdlbaaSxN
import Derived.Test.YtaaobpalpcdlbaaSxP
import Derived.Test.YtaaobpalpcdlbaaSxR
import Derived.Test.YtaaobpalpcdlbaaProg
import Derived.Test.YtaaobpalpcdlbaaRef5
import Derived.KernelRfl
namespace Go.Proofs.Ytaaobpalpcdlbaa.Bits
open Go Go.Sx Go.RowKit
set_option linter.unusedVariables false
set_option maxRecDepth 100000
def rInvASpec : St → Inv := fun S =>
  { ι := Int × Int × Int × Int
    T := fun p => keepS (hNumSpec (hNumSpec (hNumSpec (hNumSpec S 3 p.1) 4 p.2.1) 5 p.2.2.1) 6 p.2.2.2) [2, 3, 4, 5, 6, 7, 8, 9]
    R := fun p => invR (val4 (hat S 0 0) (hat S 0 1) (hat S 0 2) (hat S 0 3)) (val4 (hat S 1 0) (hat S 1 1) (hat S 1 2) (hat S 1 3)) p.1 p.2.1 p.2.2.1 p.2.2.2
    μ := fun p => p.2.1.toNat }
def rInvAnnSpec : Anns := [(19, 0, rInvASpec)]
def rInvCutSpec : Anns := []
def ref6Spec : List (FuncId × CSpec) := [(36, rRemSpec), (77, rDivSpec), (38, r2SubSpec), (39, r2MulSpec), (76, rOddSpec)]
theorem ref6_ok : SpecsOk Try.prog ref6Spec := ⟨rRem_ok, rDiv_ok, r2Sub_ok, r2Mul_ok, rOdd_ok, trivial⟩
def r2InvSpec : CSpec
  | [.agg [.int .u64 a0, .int .u64 a1, .int .u64 a2, .int .u64 a3], .agg [.int .u64 m0, .int .u64 m1, .int .u64 m2, .int .u64 m3]], k => ((U64 a0.val) ∧ (U64 a1.val) ∧ (U64 a2.val) ∧ (U64 a3.val) ∧ (U64 m0.val) ∧ (U64 m1.val) ∧ (U64 m2.val) ∧ (U64 m3.val)) ∧ (∀ r0 : Int, r0 = (invF (val4 a0.val a1.val a2.val a3.val) (val4 m0.val m1.val m2.val m3.val)) → ∀ r1 : Bool, r1 = (okF (val4 a0.val a1.val a2.val a3.val) (val4 m0.val m1.val m2.val m3.val)) → k (.tup [.agg [.int .u64 (.sym (limb r0 0)), .int .u64 (.sym (limb r0 1)), .int .u64 (.sym (limb r0 2)), .int .u64 (.sym (limb r0 3))], .bool (.sym r1)]))
  | _, _ => False
def VCR2Inv (a0 : Int) (a1 : Int) (a2 : Int) (a3 : Int) (m0 : Int) (m1 : Int) (m2 : Int) (m3 : Int) : Prop :=
  ∀ (v1 : Bool), v1 = (m0 == (0 : Int) && (m1 == (0 : Int) && (m2 == (0 : Int) && (m3 == (0 : Int) && true)))) → (v1 = true → ((IntKind.u64 = IntKind.u64 ∧ (0 : Int) = limb (invF (val4 a0 a1 a2 a3) (val4 m0 m1 m2 m3)) (0 : Nat)) ∧ (IntKind.u64 = IntKind.u64 ∧ (0 : Int) = limb (invF (val4 a0 a1 a2 a3) (val4 m0 m1 m2 m3)) (1 : Nat)) ∧ (IntKind.u64 = IntKind.u64 ∧ (0 : Int) = limb (invF (val4 a0 a1 a2 a3) (val4 m0 m1 m2 m3)) (2 : Nat)) ∧ (IntKind.u64 = IntKind.u64 ∧ (0 : Int) = limb (invF (val4 a0 a1 a2 a3) (val4 m0 m1 m2 m3)) (3 : Nat)) ∧ True) ∧ false = okF (val4 a0 a1 a2 a3) (val4 m0 m1 m2 m3) ∧ True) ∧ (v1 = false → ∀ (v2 : Int), v2 = m0.tmod (2 : Int) → ∀ (v3 : Bool), v3 = (v2 == (1 : Int)) → (v3 = true → (U64 a0 ∧ U64 a1 ∧ U64 a2 ∧ U64 a3 ∧ U64 m0 ∧ U64 m1 ∧ U64 m2 ∧ U64 m3 ∧ m0 % (2 : Int) = (1 : Int)) ∧ ∀ (v4 : Int), v4 = invF (val4 a0 a1 a2 a3) (val4 m0 m1 m2 m3) → ∀ (v5 : Bool), v5 = okF (val4 a0 a1 a2 a3) (val4 m0 m1 m2 m3) → ((IntKind.u64 = IntKind.u64 ∧ limb v4 (0 : Nat) = limb (invF (val4 a0 a1 a2 a3) (val4 m0 m1 m2 m3)) (0 : Nat)) ∧ (IntKind.u64 = IntKind.u64 ∧ limb v4 (1 : Nat) = limb (invF (val4 a0 a1 a2 a3) (val4 m0 m1 m2 m3)) (1 : Nat)) ∧ (IntKind.u64 = IntKind.u64 ∧ limb v4 (2 : Nat) = limb (invF (val4 a0 a1 a2 a3) (val4 m0 m1 m2 m3)) (2 : Nat)) ∧ (IntKind.u64 = IntKind.u64 ∧ limb v4 (3 : Nat) = limb (invF (val4 a0 a1 a2 a3) (val4 m0 m1 m2 m3)) (3 : Nat)) ∧ True) ∧ v5 = okF (val4 a0 a1 a2 a3) (val4 m0 m1 m2 m3) ∧ True) ∧ (v3 = false → (U64 a0 ∧ U64 a1 ∧ U64 a2 ∧ U64 a3 ∧ U64 (0 : Int) ∧ U64 (0 : Int) ∧ U64 (0 : Int) ∧ U64 (0 : Int) ∧ U64 m0 ∧ U64 m1 ∧ U64 m2 ∧ U64 m3) ∧ ∀ (v6 : Int), v6 = rF (val4 a0 a1 a2 a3) (0 : Int) (val4 m0 m1 m2 m3) → (U64 (1 : Int) ∧ U64 (0 : Int) ∧ U64 (0 : Int) ∧ U64 (0 : Int) ∧ U64 (0 : Int) ∧ U64 (0 : Int) ∧ U64 (0 : Int) ∧ U64 (0 : Int) ∧ U64 m0 ∧ U64 m1 ∧ U64 m2 ∧ U64 m3) ∧ ∀ (v7 : Int), v7 = rF (1 : Int) (0 : Int) (val4 m0 m1 m2 m3) → (∃ (x8 : Int × Int × Int × Int), invR (val4 a0 a1 a2 a3) (val4 m0 m1 m2 m3) x8.fst x8.snd.fst x8.snd.snd.fst x8.snd.snd.snd ∧ (True ∧ True ∧ True ∧ false = false ∧ True ∧ True ∧ True ∧ True ∧ True) ∧ (a0 = a0 ∧ a1 = a1 ∧ a2 = a2 ∧ a3 = a3 ∧ True) ∧ (m0 = m0 ∧ m1 = m1 ∧ m2 = m2 ∧ m3 = m3 ∧ True) ∧ ((0 : Int) = (0 : Int) ∧ (0 : Int) = (0 : Int) ∧ (0 : Int) = (0 : Int) ∧ (0 : Int) = (0 : Int) ∧ True) ∧ (m0 = limb x8.fst (0 : Nat) ∧ m1 = limb x8.fst (1 : Nat) ∧ m2 = limb x8.fst (2 : Nat) ∧ m3 = limb x8.fst (3 : Nat) ∧ True) ∧ (limb v6 (0 : Nat) = limb x8.snd.fst (0 : Nat) ∧ limb v6 (1 : Nat) = limb x8.snd.fst (1 : Nat) ∧ limb v6 (2 : Nat) = limb x8.snd.fst (2 : Nat) ∧ limb v6 (3 : Nat) = limb x8.snd.fst (3 : Nat) ∧ True) ∧ ((0 : Int) = limb x8.snd.snd.fst (0 : Nat) ∧ (0 : Int) = limb x8.snd.snd.fst (1 : Nat) ∧ (0 : Int) = limb x8.snd.snd.fst (2 : Nat) ∧ (0 : Int) = limb x8.snd.snd.fst (3 : Nat) ∧ True) ∧ (limb v7 (0 : Nat) = limb x8.snd.snd.snd (0 : Nat) ∧ limb v7 (1 : Nat) = limb x8.snd.snd.snd (1 : Nat) ∧ limb v7 (2 : Nat) = limb x8.snd.snd.snd (2 : Nat) ∧ limb v7 (3 : Nat) = limb x8.snd.snd.snd (3 : Nat) ∧ True) ∧ True) ∧ ∀ (v9 : Int × Int × Int × Int), invR (val4 a0 a1 a2 a3) (val4 m0 m1 m2 m3) v9.fst v9.snd.fst v9.snd.snd.fst v9.snd.snd.snd → ∀ (v10 : Bool), v10 = !(limb v9.snd.fst (0 : Nat) == (0 : Int) && (limb v9.snd.fst (1 : Nat) == (0 : Int) && (limb v9.snd.fst (2 : Nat) == (0 : Int) && (limb v9.snd.fst (3 : Nat) == (0 : Int) && true)))) → (v10 = true → (U64 (limb v9.fst (0 : Nat)) ∧ U64 (limb v9.fst (1 : Nat)) ∧ U64 (limb v9.fst (2 : Nat)) ∧ U64 (limb v9.fst (3 : Nat)) ∧ U64 (0 : Int) ∧ U64 (0 : Int) ∧ U64 (0 : Int) ∧ U64 (0 : Int) ∧ U64 (limb v9.snd.fst (0 : Nat)) ∧ U64 (limb v9.snd.fst (1 : Nat)) ∧ U64 (limb v9.snd.fst (2 : Nat)) ∧ U64 (limb v9.snd.fst (3 : Nat))) ∧ ∀ (v11 : Int), v11 = qF (val4 (limb v9.fst (0 : Nat)) (limb v9.fst (1 : Nat)) (limb v9.fst (2 : Nat)) (limb v9.fst (3 : Nat))) (0 : Int) (val4 (limb v9.snd.fst (0 : Nat)) (limb v9.snd.fst (1 : Nat)) (limb v9.snd.fst (2 : Nat)) (limb v9.snd.fst (3 : Nat))) → ∀ (v12 : Int), v12 = qF (val4 (limb v9.fst (0 : Nat)) (limb v9.fst (1 : Nat)) (limb v9.fst (2 : Nat)) (limb v9.fst (3 : Nat))) (0 : Int) (val4 (limb v9.snd.fst (0 : Nat)) (limb v9.snd.fst (1 : Nat)) (limb v9.snd.fst (2 : Nat)) (limb v9.snd.fst (3 : Nat))) / (115792089237316195423570985008687907853269984665640564039457584007913129639936 : Int) → ∀ (v13 : Int), v13 = rF (val4 (limb v9.fst (0 : Nat)) (limb v9.fst (1 : Nat)) (limb v9.fst (2 : Nat)) (limb v9.fst (3 : Nat))) (0 : Int) (val4 (limb v9.snd.fst (0 : Nat)) (limb v9.snd.fst (1 : Nat)) (limb v9.snd.fst (2 : Nat)) (limb v9.snd.fst (3 : Nat))) → ∀ (v14 : Int), (v14 = if val4 (limb v9.snd.fst (0 : Nat)) (limb v9.snd.fst (1 : Nat)) (limb v9.snd.fst (2 : Nat)) (limb v9.snd.fst (3 : Nat)) = (0 : Int) then (13 : Int) else (0 : Int)) → (U64 (limb v11 (0 : Nat)) ∧ U64 (limb v11 (1 : Nat)) ∧ U64 (limb v11 (2 : Nat)) ∧ U64 (limb v11 (3 : Nat)) ∧ U64 (limb v9.snd.snd.snd (0 : Nat)) ∧ U64 (limb v9.snd.snd.snd (1 : Nat)) ∧ U64 (limb v9.snd.snd.snd (2 : Nat)) ∧ U64 (limb v9.snd.snd.snd (3 : Nat)) ∧ U64 m0 ∧ U64 m1 ∧ U64 m2 ∧ U64 m3) ∧ ∀ (v15 : Int), v15 = modF (val4 (limb v11 (0 : Nat)) (limb v11 (1 : Nat)) (limb v11 (2 : Nat)) (limb v11 (3 : Nat)) * val4 (limb v9.snd.snd.snd (0 : Nat)) (limb v9.snd.snd.snd (1 : Nat)) (limb v9.snd.snd.snd (2 : Nat)) (limb v9.snd.snd.snd (3 : Nat))) (val4 m0 m1 m2 m3) → (U64 (limb v9.snd.snd.fst (0 : Nat)) ∧ U64 (limb v9.snd.snd.fst (1 : Nat)) ∧ U64 (limb v9.snd.snd.fst (2 : Nat)) ∧ U64 (limb v9.snd.snd.fst (3 : Nat)) ∧ U64 (limb v15 (0 : Nat)) ∧ U64 (limb v15 (1 : Nat)) ∧ U64 (limb v15 (2 : Nat)) ∧ U64 (limb v15 (3 : Nat)) ∧ U64 m0 ∧ U64 m1 ∧ U64 m2 ∧ U64 m3) ∧ ∀ (v16 : Int), v16 = modF (val4 (limb v9.snd.snd.fst (0 : Nat)) (limb v9.snd.snd.fst (1 : Nat)) (limb v9.snd.snd.fst (2 : Nat)) (limb v9.snd.snd.fst (3 : Nat)) - val4 (limb v15 (0 : Nat)) (limb v15 (1 : Nat)) (limb v15 (2 : Nat)) (limb v15 (3 : Nat))) (val4 m0 m1 m2 m3) → ∃ (x17 : Int × Int × Int × Int), invR (val4 a0 a1 a2 a3) (val4 m0 m1 m2 m3) x17.fst x17.snd.fst x17.snd.snd.fst x17.snd.snd.snd ∧ ((True ∧ True ∧ True ∧ false = false ∧ True ∧ True ∧ True ∧ True ∧ True) ∧ (a0 = a0 ∧ a1 = a1 ∧ a2 = a2 ∧ a3 = a3 ∧ True) ∧ (m0 = m0 ∧ m1 = m1 ∧ m2 = m2 ∧ m3 = m3 ∧ True) ∧ ((0 : Int) = (0 : Int) ∧ (0 : Int) = (0 : Int) ∧ (0 : Int) = (0 : Int) ∧ (0 : Int) = (0 : Int) ∧ True) ∧ (limb v9.snd.fst (0 : Nat) = limb x17.fst (0 : Nat) ∧ limb v9.snd.fst (1 : Nat) = limb x17.fst (1 : Nat) ∧ limb v9.snd.fst (2 : Nat) = limb x17.fst (2 : Nat) ∧ limb v9.snd.fst (3 : Nat) = limb x17.fst (3 : Nat) ∧ True) ∧ (limb v13 (0 : Nat) = limb x17.snd.fst (0 : Nat) ∧ limb v13 (1 : Nat) = limb x17.snd.fst (1 : Nat) ∧ limb v13 (2 : Nat) = limb x17.snd.fst (2 : Nat) ∧ limb v13 (3 : Nat) = limb x17.snd.fst (3 : Nat) ∧ True) ∧ (limb v9.snd.snd.snd (0 : Nat) = limb x17.snd.snd.fst (0 : Nat) ∧ limb v9.snd.snd.snd (1 : Nat) = limb x17.snd.snd.fst (1 : Nat) ∧ limb v9.snd.snd.snd (2 : Nat) = limb x17.snd.snd.fst (2 : Nat) ∧ limb v9.snd.snd.snd (3 : Nat) = limb x17.snd.snd.fst (3 : Nat) ∧ True) ∧ (limb v16 (0 : Nat) = limb x17.snd.snd.snd (0 : Nat) ∧ limb v16 (1 : Nat) = limb x17.snd.snd.snd (1 : Nat) ∧ limb v16 (2 : Nat) = limb x17.snd.snd.snd (2 : Nat) ∧ limb v16 (3 : Nat) = limb x17.snd.snd.snd (3 : Nat) ∧ True) ∧ True) ∧ x17.snd.fst.toNat < v9.snd.fst.toNat) ∧ (v10 = false → ∀ (v18 : Bool), v18 = !(limb v9.fst (0 : Nat) == (1 : Int) && (limb v9.fst (1 : Nat) == (0 : Int) && (limb v9.fst (2 : Nat) == (0 : Int) && (limb v9.fst (3 : Nat) == (0 : Int) && true)))) → (v18 = true → ((IntKind.u64 = IntKind.u64 ∧ (0 : Int) = limb (invF (val4 a0 a1 a2 a3) (val4 m0 m1 m2 m3)) (0 : Nat)) ∧ (IntKind.u64 = IntKind.u64 ∧ (0 : Int) = limb (invF (val4 a0 a1 a2 a3) (val4 m0 m1 m2 m3)) (1 : Nat)) ∧ (IntKind.u64 = IntKind.u64 ∧ (0 : Int) = limb (invF (val4 a0 a1 a2 a3) (val4 m0 m1 m2 m3)) (2 : Nat)) ∧ (IntKind.u64 = IntKind.u64 ∧ (0 : Int) = limb (invF (val4 a0 a1 a2 a3) (val4 m0 m1 m2 m3)) (3 : Nat)) ∧ True) ∧ false = okF (val4 a0 a1 a2 a3) (val4 m0 m1 m2 m3) ∧ True) ∧ (v18 = false → ((IntKind.u64 = IntKind.u64 ∧ limb v9.snd.snd.fst (0 : Nat) = limb (invF (val4 a0 a1 a2 a3) (val4 m0 m1 m2 m3)) (0 : Nat)) ∧ (IntKind.u64 = IntKind.u64 ∧ limb v9.snd.snd.fst (1 : Nat) = limb (invF (val4 a0 a1 a2 a3) (val4 m0 m1 m2 m3)) (1 : Nat)) ∧ (IntKind.u64 = IntKind.u64 ∧ limb v9.snd.snd.fst (2 : Nat) = limb (invF (val4 a0 a1 a2 a3) (val4 m0 m1 m2 m3)) (2 : Nat)) ∧ (IntKind.u64 = IntKind.u64 ∧ limb v9.snd.snd.fst (3 : Nat) = limb (invF (val4 a0 a1 a2 a3) (val4 m0 m1 m2 m3)) (3 : Nat)) ∧ True) ∧ true = okF (val4 a0 a1 a2 a3) (val4 m0 m1 m2 m3) ∧ True))))
theorem tieR2Inv (w0 : World) (a0 : Int) (a1 : Int) (a2 : Int) (a3 : Int) (m0 : Int) (m1 : Int) (m2 : Int) (m3 : Int) : VCR2Inv a0 a1 a2 a3 m0 m1 m2 m3 = ((recN (GL Try.prog ref6Spec rInvAnnSpec rInvCutSpec w0) 40).call 19 [.agg [.int .u64 (.sym a0), .int .u64 (.sym a1), .int .u64 (.sym a2), .int .u64 (.sym a3)], .agg [.int .u64 (.sym m0), .int .u64 (.sym m1), .int .u64 (.sym m2), .int .u64 (.sym m3)]] [] (fun r__ _ => eqV r__ (.tup [.agg [.int .u64 (.sym (limb (invF (val4 a0 a1 a2 a3) (val4 m0 m1 m2 m3)) 0)), .int .u64 (.sym (limb (invF (val4 a0 a1 a2 a3) (val4 m0 m1 m2 m3)) 1)), .int .u64 (.sym (limb (invF (val4 a0 a1 a2 a3) (val4 m0 m1 m2 m3)) 2)), .int .u64 (.sym (limb (invF (val4 a0 a1 a2 a3) (val4 m0 m1 m2 m3)) 3))], .bool (.sym (okF (val4 a0 a1 a2 a3) (val4 m0 m1 m2 m3)))]))) := by kernel_rfl
theorem pureR2Inv (a0 a1 a2 a3 m0 m1 m2 m3 : Int) (h : U64 a0 ∧ U64 a1 ∧ U64 a2 ∧ U64 a3 ∧ U64 m0 ∧ U64 m1 ∧ U64 m2 ∧ U64 m3) : VCR2Inv a0 a1 a2 a3 m0 m1 m2 m3 := by
  obtain ⟨ha0, ha1, ha2, ha3, hm0, hm1, hm2, hm3⟩ := h
  have bm := val4_lt hm0 hm1 hm2 hm3
  have lm := limbs4' hm0 hm1 hm2 hm3
  have L : ∀ x j, U64 (limb x j) := limb_in
  have t4 : ∀ {x y z w : Int}, (x = x ∧ y = y ∧ z = z ∧ w = w ∧ True) := fun {x y z w} => ⟨rfl, rfl, rfl, rfl, trivial⟩
  intro v1 h1
  rw [eq4 hm0 hm1 hm2 hm3 U64_0 U64_0 U64_0 U64_0] at h1
  refine br (fun e => ?_) (fun e => ?_) v1 h1
  · have e' : val4 m0 m1 m2 m3 = 0 := e
    rw [invF_none (Or.inl e')]
    exact ⟨limb00, by unfold okF; simp [e'], trivial⟩
  have e' : val4 m0 m1 m2 m3 ≠ 0 := e
  rintro v2 rfl
  refine brE (fun c3 => ⟨⟨ha0, ha1, ha2, ha3, hm0, hm1, hm2, hm3, ?_⟩, fun v4 h4 v5 h5 => ⟨limb_eq h4, h5, trivial⟩⟩) fun c3 => ?_
  · have := hm0.1
    rw [Int.tmod_eq_emod_of_nonneg this] at c3; exact c3
  refine ⟨⟨ha0, ha1, ha2, ha3, U64_0, U64_0, U64_0, U64_0, hm0, hm1, hm2, hm3⟩, fun v6 h6 => ⟨⟨U64_1, U64_0, U64_0, U64_0, U64_0, U64_0, U64_0, U64_0, hm0, hm1, hm2, hm3⟩, fun v7 h7 => ⟨⟨(val4 m0 m1 m2 m3, v6, 0, v7), ?_, ⟨trivial, trivial, trivial, rfl, trivial, trivial, trivial, trivial, trivial⟩, t4, t4, t4, ⟨lm.1.symm, lm.2.1.symm, lm.2.2.1.symm, lm.2.2.2.symm, trivial⟩, t4, ⟨(limb0 0).symm, (limb0 1).symm, (limb0 2).symm, (limb0 3).symm, trivial⟩, t4, trivial⟩, fun ⟨r, s, x, y⟩ hp v10 h10 => ?_⟩⟩⟩
  · rw [rF_mod] at h6 h7
    unfold modF at h6 h7
    rw [if_neg e'] at h6 h7
    rw [h6, h7]
    exact inv_start (by omega)
  dsimp only at hp h10 ⊢
  have hp' := hp
  obtain ⟨hm, ⟨s0, sr, rm⟩, ⟨x0, x1⟩, ⟨y0, y1⟩, ux, uy, g⟩ := hp'
  rw [eq4l (by omega) (by omega) U64_0 U64_0 U64_0 U64_0] at h10
  refine brnd (fun e6 => ?_) (fun e6 v18 h18 => ?_) v10 h10
  rotate_left
  · have e6 : s = 0 := e6
    rw [eq4l (by omega) (by omega) U64_1 U64_0 U64_0 U64_0] at h18
    subst e6
    rw [Int.gcd_zero_right] at g
    refine brnd (fun e7 => ?_) (fun e7 => ?_) v18 h18
    · have e7 : r ≠ 1 := e7
      have e8 : Int.gcd (val4 a0 a1 a2 a3) (val4 m0 m1 m2 m3) ≠ 1 := by omega
      rw [invF_none (Or.inr e8)]
      exact ⟨limb00, by unfold okF; simp [e8], trivial⟩
    · have e7 : r = 1 := e7
      subst e7
      rw [invF_eq x0 x1 ux]
      exact ⟨limb_eq rfl, by unfold okF; rw [← g]; simp [e'], trivial⟩
  have e6 : s ≠ 0 := e6
  have q0 : 0 ≤ r / s := Int.ediv_nonneg (by omega) (by omega)
  have q1 : r / s ≤ r := Int.ediv_le_self _ (by omega)
  refine ⟨⟨L .., L .., L .., L .., U64_0, U64_0, U64_0, U64_0, L .., L .., L .., L ..⟩, fun v11 h11 v12 h12 v13 h13 v14 h14 => ⟨⟨L .., L .., L .., L .., L .., L .., L .., L .., hm0, hm1, hm2, hm3⟩, fun v15 h15 => ⟨⟨L .., L .., L .., L .., L .., L .., L .., L .., hm0, hm1, hm2, hm3⟩, fun v16 h16 => ?_⟩⟩⟩
  have st := inv_step hp e6
  have t0 := st.2.2.2.1
  have n12 : 0 ≤ r / s * y % val4 m0 m1 m2 m3 := Int.emod_nonneg _ e'
  have l12 := Int.emod_lt_of_pos (r / s * y) (show 0 < val4 m0 m1 m2 m3 by omega)
  rw [val4_limb' (x := r) (by omega) (by omega), val4_limb' (x := s) (by omega) (by omega)] at h11 h13
  unfold qF at h11
  unfold rF at h13
  rw [if_neg e6] at h11 h13
  rw [Int.zero_mul, Int.zero_add] at h11 h13
  unfold modF at h15 h16
  rw [if_neg e'] at h15 h16
  rw [h11, val4_limb' (x := r / s) (by omega) (by omega), val4_limb' (x := y) (by omega) (by omega)] at h15
  rw [h15, val4_limb' (x := x) (by omega) (by omega), val4_limb' (by omega) (by omega)] at h16
  refine ⟨(s, v13, y, v16), ?_, ⟨⟨trivial, trivial, trivial, rfl, trivial, trivial, trivial, trivial, trivial⟩, t4, t4, t4, t4, t4, t4, t4, trivial⟩, ?_⟩
  · rw [h13, h16]; exact st
  · have := st.2.1
    dsimp only
    rw [h13]; omega
theorem r2Inv_ok : SpecOk Try.prog 19 r2InvSpec := by
  intro args k h
  unfold r2InvSpec at h
  split at h
  · rename_i a0 a1 a2 a3 m0 m1 m2 m3
    obtain ⟨hr, h⟩ := h
    exact ⟨_, h _ rfl _ rfl, PureOk.of_tie (GL Try.prog ref6Spec rInvAnnSpec rInvCutSpec) (fun w__ => gokL w__ namesOk_ mixed_ ref6_ok) (fun _ => rfl) (fun _ => rfl) (args' := [.agg [.int .u64 (.sym a0.val), .int .u64 (.sym a1.val), .int .u64 (.sym a2.val), .int .u64 (.sym a3.val)], .agg [.int .u64 (.sym m0.val), .int .u64 (.sym m1.val), .int .u64 (.sym m2.val), .int .u64 (.sym m3.val)]]) ⟨⟨⟨rfl, rfl⟩, ⟨rfl, rfl⟩, ⟨rfl, rfl⟩, ⟨rfl, rfl⟩, trivial⟩, ⟨⟨rfl, rfl⟩, ⟨rfl, rfl⟩, ⟨rfl, rfl⟩, ⟨rfl, rfl⟩, trivial⟩, trivial⟩ 40 (fun w__ => VCR2Inv a0.val a1.val a2.val a3.val m0.val m1.val m2.val m3.val) (fun w__ => tieR2Inv w__ a0.val a1.val a2.val a3.val m0.val m1.val m2.val m3.val) (fun w__ => pureR2Inv a0.val a1.val a2.val a3.val m0.val m1.val m2.val m3.val hr)⟩
  · exact h.elim

end Go.Proofs.Ytaaobpalpcdlbaa.Bits
