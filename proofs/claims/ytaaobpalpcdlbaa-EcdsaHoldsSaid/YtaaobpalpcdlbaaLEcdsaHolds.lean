import Derived.Test.YtaaobpalpcdlbaaEd5
import Derived.Test.YtaaobpalpcdlbaaSxR
import Derived.Test.YtaaobpalpcdlbaaRows
import Derived.WalkKit
import Derived.ProofKit
import Derived.OpenShut
import Derived.ShutString
import Derived.ChangeOld
import Derived.Below
import Derived.SizedLaws
import Derived.Carry
namespace Go.Proofs.Ytaaobpalpcdlbaa.ecdsaHolds
open Go.ChangeShapes Go.WideShapes Go.ChangeAt Go.RowKit
open Go.ChangeMaps (open_string shut_string)
set_option linter.unusedVariables false
theorem own : ownKnob Try.prog.godebug = none := by kernel_rfl
theorem laidOut : laidOutB Try.prog = true := by kernel_rfl
set_option maxRecDepth 100000 in
theorem lifted (os : Os) (started : os.Started) (H : Type) (enc : TypeId × Value → H) :
    ReturnsInHanded {} Try.checked os 16 .any (Rows.ecdsaHoldsSpec.pre6 enc Try.prog Try.f16 Rows.ecdsaHoldsRow.domain false) (Rows.ecdsaHoldsSpec.post enc Try.prog Try.f16 false true false false) := by
  refine returnsInHanded_of_change_sized (C := Try.checked) own started (by kernel_rfl) Try.func16
    (ChangeSpec.witness6 (enc := enc) (C := Try.checked) false ⟨#[], #[.agg #[.int .u64 0, .int .u64 0, .int .u64 0, .int .u64 0], .agg #[.int .u64 0, .int .u64 0, .int .u64 0, .int .u64 0], .string ByteArray.empty, .string ByteArray.empty], []⟩ 8 (by kernel_rfl) (by kernel_rfl) (by kernel_rfl) (by kernel_rfl)) ?_
  intro W base args ds gs before hval0 hW hcnd hsz0 _
  have hsz : (DataW.weightsEach Try.prog (Try.f16.params.toList ++ Rows.ecdsaHoldsSpec.plain.varTypes Try.prog) (ds ++ gs)).all (· ≤ reachBytes) = true := hsz0
  have hval : ∀ (j : Nat) t v, Try.f16.params[j]? = some t → args[j]? = some v → Value.okWide Try.prog W .any base t v := hval0
  have hW' := hW
  obtain ⟨p, q, hA0, hV, rfl, hfz, hnd⟩ := hW
  have hA : DataW.TrodAll enc Try.prog W 0 (fun _ => true) true Try.f16.params.toList args.toList ds p := hA0
  rw [Try.params16] at hA hval hsz
  obtain ⟨v0, vs0, d0, ds0, p0, q0, hargs, rfl, rfl, h0, r0⟩ := trodAll_cons hA
  obtain ⟨v1, vs1, d1, ds1, p1, q1, rfl, rfl, rfl, h1, r1⟩ := trodAll_cons r0
  obtain ⟨v2, vs2, d2, ds2, p2, q2, rfl, rfl, rfl, h2, r2⟩ := trodAll_cons r1
  obtain ⟨v3, vs3, d3, ds3, p3, q3, rfl, rfl, rfl, h3, r3⟩ := trodAll_cons r2
  obtain ⟨rfl, rfl, rfl⟩ := trodAll_nil r3
  obtain rfl : args = #[v0, v1, v2, v3] := by cases args; simp_all
  obtain ⟨rfl, rfl⟩ := trodVars_none hV
  obtain ⟨xs0, rfl, hc0⟩ := Go.Sx.okWide_agg (t := 24) (by kernel_rfl) (hval 0 24 v0 rfl rfl)
  have k0 := h0
  have lt0 : ∀ x ∈ p0, x.block < W.heap.size := by obtain ⟨m, hm⟩ := k0; exact DataW.trod_lt m _ _ _ hm
  have fl0_0 := Go.Sx.open_flat (n := 8) (ks := [.int .u64, .int .u64, .int .u64, .int .u64]) (by kernel_rfl) h0
  obtain ⟨d0, _, e0, w0_0, fl0_1⟩ := fl0_0.int
  obtain ⟨d1, _, rfl, w0_1, fl0_2⟩ := fl0_1.int
  obtain ⟨d2, _, rfl, w0_2, fl0_3⟩ := fl0_2.int
  obtain ⟨d3, _, rfl, w0_3, fl0_4⟩ := fl0_3.int
  obtain rfl := fl0_4.nil
  obtain rfl : xs0 = #[.int .u64 d0, .int .u64 d1, .int .u64 d2, .int .u64 d3] := Array.toList_inj.1 (by simpa using e0)
  obtain ⟨xs1, rfl, hc1⟩ := Go.Sx.okWide_agg (t := 24) (by kernel_rfl) (hval 1 24 v1 rfl rfl)
  have k1 := h1
  have lt1 : ∀ x ∈ p1, x.block < W.heap.size := by obtain ⟨m, hm⟩ := k1; exact DataW.trod_lt m _ _ _ hm
  have fl1_0 := Go.Sx.open_flat (n := 8) (ks := [.int .u64, .int .u64, .int .u64, .int .u64]) (by kernel_rfl) h1
  obtain ⟨b0, _, e1, w1_0, fl1_1⟩ := fl1_0.int
  obtain ⟨b1, _, rfl, w1_1, fl1_2⟩ := fl1_1.int
  obtain ⟨b2, _, rfl, w1_2, fl1_3⟩ := fl1_2.int
  obtain ⟨b3, _, rfl, w1_3, fl1_4⟩ := fl1_3.int
  obtain rfl := fl1_4.nil
  obtain rfl : xs1 = #[.int .u64 b0, .int .u64 b1, .int .u64 b2, .int .u64 b3] := Array.toList_inj.1 (by simpa using e1)
  obtain ⟨a2, rfl, rfl, rfl, y2⟩ := open_string Try.underlying9 (hval 2 9 v2 rfl rfl) h2
  have w2 : a2.size ≤ 140737488351232 := by
    have z := sized_string hsz (j := 2) (t := 9) rfl rfl
    rw [Array.length_toList] at z
    exact z
  obtain ⟨a3, rfl, rfl, rfl, y3⟩ := open_string Try.underlying9 (hval 3 9 v3 rfl rfl) h3
  have w3 : a3.size ≤ 140737488351232 := by
    have z := sized_string hsz (j := 3) (t := 9) rfl rfl
    rw [Array.length_toList] at z
    exact z
  clear hA0 hval0 hsz0 hsz
  refine (Go.Proofs.Ytaaobpalpcdlbaa.Bits.walkEcdsaHolds d0 d1 d2 d3 b0 b1 b2 b3 a2 a3 W w0_0 w0_1 w0_2 w0_3 w1_0 w1_1 w1_2 w1_3 w2 w3).mono fun e W' ⟨he, bel⟩ => ?_
  subst he
  exact ⟨_, rfl, _, _, _, [], _, [], hW', trodAll_mk1 (shut_bool Try.underlying4 _), (trodAll_cons_mk (Below.trod laidOut (by kernel_rfl) (of_decide_eq_true (by kernel_rfl)) k0 bel lt0) (trodAll_cons_mk (Below.trod laidOut (by kernel_rfl) (of_decide_eq_true (by kernel_rfl)) k1 bel lt1) (trodAll_cons_mk (shut_string Try.underlying9 y2) (trodAll_cons_mk (shut_string Try.underlying9 y3) trodAll_mk0)))), rfl, bel.frame _, fun h => by cases h⟩
theorem over : Rows.ecdsaHoldsRow.holds Try.pinned (OpenSpec.ofChange Rows.ecdsaHoldsSpec) :=
  OpenClaim.holds_of_wide 16 Try.f16 rfl rfl rfl rfl rfl rfl rfl ⟨rfl, rfl, rfl, rfl, rfl⟩ rfl rfl rfl rfl rfl (by kernel_rfl) Try.func16 (by kernel_rfl)
    (of_decide_eq_true (by kernel_rfl)) (by unfold Func.isWrapper; first | (rw [if_pos (by decide +kernel)]; kernel_rfl) | (rw [if_neg (by decide +kernel)]; exact ⟨rfl, rfl⟩))
    (fun os started H enc _ => lifted os started H enc)
theorem proved : Rows.EcdsaHoldsSaid := over
#print axioms proved
end Go.Proofs.Ytaaobpalpcdlbaa.ecdsaHolds
namespace Go.Proofs.Ytaaobpalpcdlbaa
theorem ecdsaHolds_holds : Rows.EcdsaHoldsSaid := ecdsaHolds.proved
end Go.Proofs.Ytaaobpalpcdlbaa
