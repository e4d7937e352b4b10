import Derived.Test.YtaaobpalpcdlbaaSxR
import Derived.Test.YtaaobpalpcdlbaaProg
import Derived.Test.YtaaobpalpcdlbaaEd2
import Derived.KernelRfl
namespace Go.Proofs.Ytaaobpalpcdlbaa.Bits
open Go Go.Sx Go.RowKit Go.EC
set_option linter.unusedVariables false
set_option maxRecDepth 100000
def ed6Spec : List (FuncId × CSpec) := [(25, rCmpSpec), (38, r2SubSpec)]
theorem ed6_ok : SpecsOk Try.prog ed6Spec := ⟨rCmp_ok, r2Sub_ok, trivial⟩
def rLowSpec : CSpec
  | [.agg [.int .u64 gr0, .int .u64 gr1, .int .u64 gr2, .int .u64 gr3, .int .u64 gs0, .int .u64 gs1, .int .u64 gs2, .int .u64 gs3]], k => ((U64 gr0.val) ∧ (U64 gr1.val) ∧ (U64 gr2.val) ∧ (U64 gr3.val) ∧ (U64 gs0.val) ∧ (U64 gs1.val) ∧ (U64 gs2.val) ∧ (U64 gs3.val)) ∧ (∀ r0 : Int, r0 = (gr0.val) → ∀ r1 : Int, r1 = (gr1.val) → ∀ r2 : Int, r2 = (gr2.val) → ∀ r3 : Int, r3 = (gr3.val) → ∀ r4 : Int, r4 = (loS (val4 gr0.val gr1.val gr2.val gr3.val) (val4 gs0.val gs1.val gs2.val gs3.val)) → k (.agg [.int .u64 (.sym r0), .int .u64 (.sym r1), .int .u64 (.sym r2), .int .u64 (.sym r3), .int .u64 (.sym (limb r4 0)), .int .u64 (.sym (limb r4 1)), .int .u64 (.sym (limb r4 2)), .int .u64 (.sym (limb r4 3))]))
  | _, _ => False
def VCRLow (gr0 : Int) (gr1 : Int) (gr2 : Int) (gr3 : Int) (gs0 : Int) (gs1 : Int) (gs2 : Int) (gs3 : Int) : Prop :=
  (U64 gr0 /\ U64 gr1 /\ U64 gr2 /\ U64 gr3 /\ U64 17562291160714782033 /\ U64 13611842547513532036 /\ U64 18446744073709551615 /\ U64 18446744069414584320) /\ ∀ v1, v1 = cmpF (val4 gr0 gr1 gr2 gr3) (115792089210356248762697446949407573529996955224135760342422259061068512044369 : Int) -> ∀ v2, v2 = decide (v1 ≥ (0 : Int)) -> (v2 = false -> (U64 gs0 /\ U64 gs1 /\ U64 gs2 /\ U64 gs3 /\ U64 17562291160714782033 /\ U64 13611842547513532036 /\ U64 18446744073709551615 /\ U64 18446744069414584320) /\ ∀ v3, v3 = cmpF (val4 gs0 gs1 gs2 gs3) (115792089210356248762697446949407573529996955224135760342422259061068512044369 : Int) -> ∀ v4, v4 = decide (v3 ≥ (0 : Int)) -> (v4 = true -> (IntKind.u64 = IntKind.u64 /\ gr0 = gr0) /\ (IntKind.u64 = IntKind.u64 /\ gr1 = gr1) /\ (IntKind.u64 = IntKind.u64 /\ gr2 = gr2) /\ (IntKind.u64 = IntKind.u64 /\ gr3 = gr3) /\ (IntKind.u64 = IntKind.u64 /\ gs0 = limb (loS (val4 gr0 gr1 gr2 gr3) (val4 gs0 gs1 gs2 gs3)) 0) /\ (IntKind.u64 = IntKind.u64 /\ gs1 = limb (loS (val4 gr0 gr1 gr2 gr3) (val4 gs0 gs1 gs2 gs3)) 1) /\ (IntKind.u64 = IntKind.u64 /\ gs2 = limb (loS (val4 gr0 gr1 gr2 gr3) (val4 gs0 gs1 gs2 gs3)) 2) /\ (IntKind.u64 = IntKind.u64 /\ gs3 = limb (loS (val4 gr0 gr1 gr2 gr3) (val4 gs0 gs1 gs2 gs3)) 3) /\ True) /\ (v4 = false -> (U64 0 /\ U64 0 /\ U64 0 /\ U64 0 /\ U64 gs0 /\ U64 gs1 /\ U64 gs2 /\ U64 gs3 /\ U64 17562291160714782033 /\ U64 13611842547513532036 /\ U64 18446744073709551615 /\ U64 18446744069414584320) /\ ∀ v5, v5 = modF ((0 : Int) - val4 gs0 gs1 gs2 gs3) (115792089210356248762697446949407573529996955224135760342422259061068512044369 : Int) -> (U64 (limb v5 0) /\ U64 (limb v5 1) /\ U64 (limb v5 2) /\ U64 (limb v5 3) /\ U64 gs0 /\ U64 gs1 /\ U64 gs2 /\ U64 gs3) /\ ∀ v6, v6 = cmpF (val4 (limb v5 0) (limb v5 1) (limb v5 2) (limb v5 3)) (val4 gs0 gs1 gs2 gs3) -> ∀ v7, v7 = decide (v6 < (0 : Int)) -> (v7 = true -> (IntKind.u64 = IntKind.u64 /\ gr0 = gr0) /\ (IntKind.u64 = IntKind.u64 /\ gr1 = gr1) /\ (IntKind.u64 = IntKind.u64 /\ gr2 = gr2) /\ (IntKind.u64 = IntKind.u64 /\ gr3 = gr3) /\ (IntKind.u64 = IntKind.u64 /\ limb v5 0 = limb (loS (val4 gr0 gr1 gr2 gr3) (val4 gs0 gs1 gs2 gs3)) 0) /\ (IntKind.u64 = IntKind.u64 /\ limb v5 1 = limb (loS (val4 gr0 gr1 gr2 gr3) (val4 gs0 gs1 gs2 gs3)) 1) /\ (IntKind.u64 = IntKind.u64 /\ limb v5 2 = limb (loS (val4 gr0 gr1 gr2 gr3) (val4 gs0 gs1 gs2 gs3)) 2) /\ (IntKind.u64 = IntKind.u64 /\ limb v5 3 = limb (loS (val4 gr0 gr1 gr2 gr3) (val4 gs0 gs1 gs2 gs3)) 3) /\ True) /\ (v7 = false -> (IntKind.u64 = IntKind.u64 /\ gr0 = gr0) /\ (IntKind.u64 = IntKind.u64 /\ gr1 = gr1) /\ (IntKind.u64 = IntKind.u64 /\ gr2 = gr2) /\ (IntKind.u64 = IntKind.u64 /\ gr3 = gr3) /\ (IntKind.u64 = IntKind.u64 /\ gs0 = limb (loS (val4 gr0 gr1 gr2 gr3) (val4 gs0 gs1 gs2 gs3)) 0) /\ (IntKind.u64 = IntKind.u64 /\ gs1 = limb (loS (val4 gr0 gr1 gr2 gr3) (val4 gs0 gs1 gs2 gs3)) 1) /\ (IntKind.u64 = IntKind.u64 /\ gs2 = limb (loS (val4 gr0 gr1 gr2 gr3) (val4 gs0 gs1 gs2 gs3)) 2) /\ (IntKind.u64 = IntKind.u64 /\ gs3 = limb (loS (val4 gr0 gr1 gr2 gr3) (val4 gs0 gs1 gs2 gs3)) 3) /\ True))) /\ (v2 = true -> (IntKind.u64 = IntKind.u64 /\ gr0 = gr0) /\ (IntKind.u64 = IntKind.u64 /\ gr1 = gr1) /\ (IntKind.u64 = IntKind.u64 /\ gr2 = gr2) /\ (IntKind.u64 = IntKind.u64 /\ gr3 = gr3) /\ (IntKind.u64 = IntKind.u64 /\ gs0 = limb (loS (val4 gr0 gr1 gr2 gr3) (val4 gs0 gs1 gs2 gs3)) 0) /\ (IntKind.u64 = IntKind.u64 /\ gs1 = limb (loS (val4 gr0 gr1 gr2 gr3) (val4 gs0 gs1 gs2 gs3)) 1) /\ (IntKind.u64 = IntKind.u64 /\ gs2 = limb (loS (val4 gr0 gr1 gr2 gr3) (val4 gs0 gs1 gs2 gs3)) 2) /\ (IntKind.u64 = IntKind.u64 /\ gs3 = limb (loS (val4 gr0 gr1 gr2 gr3) (val4 gs0 gs1 gs2 gs3)) 3) /\ True)
theorem tieRLow (w0 : World) (gr0 : Int) (gr1 : Int) (gr2 : Int) (gr3 : Int) (gs0 : Int) (gs1 : Int) (gs2 : Int) (gs3 : Int) : VCRLow gr0 gr1 gr2 gr3 gs0 gs1 gs2 gs3 = ((recN (GC Try.prog ed6Spec w0) 40).call 73 [.agg [.int .u64 (.sym gr0), .int .u64 (.sym gr1), .int .u64 (.sym gr2), .int .u64 (.sym gr3), .int .u64 (.sym gs0), .int .u64 (.sym gs1), .int .u64 (.sym gs2), .int .u64 (.sym gs3)]] [] (fun r__ _ => eqV r__ (.agg [.int .u64 (.sym (gr0)), .int .u64 (.sym (gr1)), .int .u64 (.sym (gr2)), .int .u64 (.sym (gr3)), .int .u64 (.sym (limb (loS (val4 gr0 gr1 gr2 gr3) (val4 gs0 gs1 gs2 gs3)) 0)), .int .u64 (.sym (limb (loS (val4 gr0 gr1 gr2 gr3) (val4 gs0 gs1 gs2 gs3)) 1)), .int .u64 (.sym (limb (loS (val4 gr0 gr1 gr2 gr3) (val4 gs0 gs1 gs2 gs3)) 2)), .int .u64 (.sym (limb (loS (val4 gr0 gr1 gr2 gr3) (val4 gs0 gs1 gs2 gs3)) 3))]))) := by kernel_rfl
theorem pureRLow (gr0 gr1 gr2 gr3 gs0 gs1 gs2 gs3 : Int) (h : U64 gr0 ∧ U64 gr1 ∧ U64 gr2 ∧ U64 gr3 ∧ U64 gs0 ∧ U64 gs1 ∧ U64 gs2 ∧ U64 gs3) : VCRLow gr0 gr1 gr2 gr3 gs0 gs1 gs2 gs3 := by
  obtain ⟨hgr0, hgr1, hgr2, hgr3, hgs0, hgs1, hgs2, hgs3⟩ := h
  have egr0 : U64 gr0 = True := eq_true hgr0
  have egr1 : U64 gr1 = True := eq_true hgr1
  have egr2 : U64 gr2 = True := eq_true hgr2
  have egr3 : U64 gr3 = True := eq_true hgr3
  have egs0 : U64 gs0 = True := eq_true hgs0
  have egs1 : U64 gs1 = True := eq_true hgs1
  have egs2 : U64 gs2 = True := eq_true hgs2
  have egs3 : U64 gs3 = True := eq_true hgs3
  obtain ⟨q0, q1, q2, q3⟩ := n2w
  have w0 : U64 0 = True := eq_true U64_0
  have p0 : U64 17562291160714782033 = True := eq_true q0
  have p1 : U64 13611842547513532036 = True := eq_true q1
  have p2 : U64 18446744073709551615 = True := eq_true q2
  have p3 : U64 18446744069414584320 = True := eq_true q3
  obtain ⟨l0, l1, l2, l3⟩ := limbs4' hgs0 hgs1 hgs2 hgs3
  unfold VCRLow
  simp only [forall_eq, ulP, egr0, egr1, egr2, egr3, egs0, egs1, egs2, egs3, w0, p0, p1, p2, p3, modN2, lmN, cmp_lt, cmp_nneg, true_and]
  generalize val4 gr0 gr1 gr2 gr3 = R at *
  generalize hS : val4 gs0 gs1 gs2 gs3 = S at *
  by_cases c1 : R < 115792089210356248762697446949407573529996955224135760342422259061068512044369
  · by_cases c2 : S < 115792089210356248762697446949407573529996955224135760342422259061068512044369
    · by_cases c3 : (0 - S) % N2 < S
      · have e : loS R S = (0 - S) % N2 := if_pos ⟨c1, c2, c3⟩
        simp only [e, decide_eq_true c1, decide_eq_true c2, decide_eq_true c3, Bool.false_eq_true, ↓reduceIte, Bool.not_true, Bool.not_false, reduceCtorEq, false_implies, forall_const, true_and, and_true, and_self, l0, l1, l2, l3]
      · have e : loS R S = S := if_neg fun z => c3 z.2.2
        simp only [e, decide_eq_true c1, decide_eq_true c2, decide_eq_false c3, Bool.false_eq_true, ↓reduceIte, Bool.not_true, Bool.not_false, reduceCtorEq, false_implies, forall_const, true_and, and_true, and_self, l0, l1, l2, l3]
    · have e : loS R S = S := if_neg fun z => c2 z.2.1
      simp only [e, decide_eq_true c1, decide_eq_false c2, Bool.false_eq_true, ↓reduceIte, Bool.not_true, Bool.not_false, reduceCtorEq, false_implies, forall_const, true_and, and_true, and_self, l0, l1, l2, l3]
  · have e : loS R S = S := if_neg fun z => c1 z.1
    simp only [e, decide_eq_false c1, Bool.false_eq_true, ↓reduceIte, Bool.not_true, Bool.not_false, reduceCtorEq, false_implies, forall_const, true_and, and_true, and_self, l0, l1, l2, l3]
theorem rLow_ok : SpecOk Try.prog 73 rLowSpec := by
  intro args k h
  unfold rLowSpec at h
  split at h
  · rename_i gr0 gr1 gr2 gr3 gs0 gs1 gs2 gs3
    obtain ⟨hr, h⟩ := h
    exact ⟨_, h _ rfl _ rfl _ rfl _ rfl _ rfl, PureOk.of_tie (GC Try.prog ed6Spec) (fun w__ => gok w__ namesOk_ mixed_ ed6_ok) (fun _ => rfl) (fun _ => rfl) (args' := [.agg [.int .u64 (.sym gr0.val), .int .u64 (.sym gr1.val), .int .u64 (.sym gr2.val), .int .u64 (.sym gr3.val), .int .u64 (.sym gs0.val), .int .u64 (.sym gs1.val), .int .u64 (.sym gs2.val), .int .u64 (.sym gs3.val)]]) ⟨⟨⟨rfl, rfl⟩, ⟨rfl, rfl⟩, ⟨rfl, rfl⟩, ⟨rfl, rfl⟩, ⟨rfl, rfl⟩, ⟨rfl, rfl⟩, ⟨rfl, rfl⟩, ⟨rfl, rfl⟩, trivial⟩, trivial⟩ 40 (fun w__ => VCRLow gr0.val gr1.val gr2.val gr3.val gs0.val gs1.val gs2.val gs3.val) (fun w__ => tieRLow w__ gr0.val gr1.val gr2.val gr3.val gs0.val gs1.val gs2.val gs3.val) (fun w__ => pureRLow gr0.val gr1.val gr2.val gr3.val gs0.val gs1.val gs2.val gs3.val hr)⟩
  · exact h.elim

end Go.Proofs.Ytaaobpalpcdlbaa.Bits
