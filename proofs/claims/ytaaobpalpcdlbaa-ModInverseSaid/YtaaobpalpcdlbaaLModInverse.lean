/- The law ModInverse, out of its walk: what it says of every input. -/
import Derived.Test.YtaaobpalpcdlbaaMod5
import Derived.Test.YtaaobpalpcdlbaaSxR
import Derived.Test.YtaaobpalpcdlbaaRows
import Derived.WalkKit
import Derived.ProofKit
import Derived.OpenShut
import Derived.ShutString
import Derived.ChangeOld
import Derived.Below
import Derived.SizedLaws
import Derived.Carry
namespace Go.Proofs.Ytaaobpalpcdlbaa.modInverse
open Go.ChangeShapes Go.WideShapes Go.ChangeAt Go.RowKit
open Go.ChangeMaps (open_string shut_string)
set_option linter.unusedVariables false
theorem own : ownKnob Try.prog.godebug = none := by kernel_rfl
theorem laidOut : laidOutB Try.prog = true := by kernel_rfl
set_option maxRecDepth 100000 in
theorem lifted (os : Os) (started : os.Started) (H : Type) (enc : TypeId × Value → H) :
    ReturnsInHanded {} Try.checked os 5 .any (Rows.modInverseSpec.pre6 enc Try.prog Try.f5 Rows.modInverseRow.domain false) (Rows.modInverseSpec.post enc Try.prog Try.f5 false true false false) := by
  refine returnsInHanded_of_change_sized (C := Try.checked) own started (by kernel_rfl) Try.func5
    (ChangeSpec.witness6 (enc := enc) (C := Try.checked) false ⟨#[], #[.agg #[.int .u64 0, .int .u64 0, .int .u64 0, .int .u64 0], .agg #[.int .u64 0, .int .u64 0, .int .u64 0, .int .u64 0], .agg #[.int .u64 0, .int .u64 0, .int .u64 0, .int .u64 0], .int .i64 0], []⟩ 8 (by kernel_rfl) (by kernel_rfl) (by kernel_rfl) (by kernel_rfl)) ?_
  intro W base args ds gs before hval0 hW hcnd hsz0 _
  have hsz : (DataW.weightsEach Try.prog (Try.f5.params.toList ++ Rows.modInverseSpec.plain.varTypes Try.prog) (ds ++ gs)).all (· ≤ reachBytes) = true := hsz0
  have hval : ∀ (j : Nat) t v, Try.f5.params[j]? = some t → args[j]? = some v → Value.okWide Try.prog W .any base t v := hval0
  have hW' := hW
  obtain ⟨p, q, hA0, hV, rfl, hfz, hnd⟩ := hW
  have hA : DataW.TrodAll enc Try.prog W 0 (fun _ => true) true Try.f5.params.toList args.toList ds p := hA0
  rw [Try.params5] at hA hval hsz
  obtain ⟨v0, vs0, d0, ds0, p0, q0, hargs, rfl, rfl, h0, r0⟩ := trodAll_cons hA
  obtain ⟨v1, vs1, d1, ds1, p1, q1, rfl, rfl, rfl, h1, r1⟩ := trodAll_cons r0
  obtain ⟨v2, vs2, d2, ds2, p2, q2, rfl, rfl, rfl, h2, r2⟩ := trodAll_cons r1
  obtain ⟨v3, vs3, d3, ds3, p3, q3, rfl, rfl, rfl, h3, r3⟩ := trodAll_cons r2
  obtain ⟨rfl, rfl, rfl⟩ := trodAll_nil r3
  obtain rfl : args = #[v0, v1, v2, v3] := by cases args; simp_all
  obtain ⟨rfl, rfl⟩ := trodVars_none hV
  obtain ⟨xs0, rfl, hc0⟩ := Go.Sx.okWide_agg (t := 24) (by kernel_rfl) (hval 0 24 v0 rfl rfl)
  have k0 := h0
  have lt0 : ∀ x ∈ p0, x.block < W.heap.size := by obtain ⟨m, hm⟩ := k0; exact DataW.trod_lt m _ _ _ hm
  have fl0 := Go.Sx.open_flat (n := 8) (ks := [.int .u64, .int .u64, .int .u64, .int .u64]) (by kernel_rfl) h0
  obtain ⟨z0, _, e0, w0_0, fl0⟩ := fl0.int
  obtain ⟨z1, _, rfl, w0_1, fl0⟩ := fl0.int
  obtain ⟨z2, _, rfl, w0_2, fl0⟩ := fl0.int
  obtain ⟨z3, _, rfl, w0_3, fl0⟩ := fl0.int
  obtain rfl := fl0.nil
  obtain rfl : xs0 = #[.int .u64 z0, .int .u64 z1, .int .u64 z2, .int .u64 z3] := Array.toList_inj.1 (by simpa using e0)
  obtain ⟨xs1, rfl, hc1⟩ := Go.Sx.okWide_agg (t := 24) (by kernel_rfl) (hval 1 24 v1 rfl rfl)
  have k1 := h1
  have lt1 : ∀ x ∈ p1, x.block < W.heap.size := by obtain ⟨m, hm⟩ := k1; exact DataW.trod_lt m _ _ _ hm
  have fl1 := Go.Sx.open_flat (n := 8) (ks := [.int .u64, .int .u64, .int .u64, .int .u64]) (by kernel_rfl) h1
  obtain ⟨x0, _, e1, w1_0, fl1⟩ := fl1.int
  obtain ⟨x1, _, rfl, w1_1, fl1⟩ := fl1.int
  obtain ⟨x2, _, rfl, w1_2, fl1⟩ := fl1.int
  obtain ⟨x3, _, rfl, w1_3, fl1⟩ := fl1.int
  obtain rfl := fl1.nil
  obtain rfl : xs1 = #[.int .u64 x0, .int .u64 x1, .int .u64 x2, .int .u64 x3] := Array.toList_inj.1 (by simpa using e1)
  obtain ⟨xs2, rfl, hc2⟩ := Go.Sx.okWide_agg (t := 24) (by kernel_rfl) (hval 2 24 v2 rfl rfl)
  have k2 := h2
  have lt2 : ∀ x ∈ p2, x.block < W.heap.size := by obtain ⟨m, hm⟩ := k2; exact DataW.trod_lt m _ _ _ hm
  have fl2 := Go.Sx.open_flat (n := 8) (ks := [.int .u64, .int .u64, .int .u64, .int .u64]) (by kernel_rfl) h2
  obtain ⟨y0, _, e2, w2_0, fl2⟩ := fl2.int
  obtain ⟨y1, _, rfl, w2_1, fl2⟩ := fl2.int
  obtain ⟨y2, _, rfl, w2_2, fl2⟩ := fl2.int
  obtain ⟨y3, _, rfl, w2_3, fl2⟩ := fl2.int
  obtain rfl := fl2.nil
  obtain rfl : xs2 = #[.int .u64 y0, .int .u64 y1, .int .u64 y2, .int .u64 y3] := Array.toList_inj.1 (by simpa using e2)
  obtain ⟨a3, rfl, rfl, rfl, w3⟩ := open_int Try.underlying3 (hval 3 3 v3 rfl rfl) h3
  clear hA0 hval0 hsz0 hsz
  refine (Go.Proofs.Ytaaobpalpcdlbaa.Bits.walkModInverse z0 z1 z2 z3 x0 x1 x2 x3 y0 y1 y2 y3 a3 W w0_0 w0_1 w0_2 w0_3 w1_0 w1_1 w1_2 w1_3 w2_0 w2_1 w2_2 w2_3 w3).mono fun e W' ⟨he, bel⟩ => ?_
  subst he
  exact ⟨_, rfl, _, _, _, [], _, [], hW', trodAll_mk1 (shut_bool Try.underlying4 _), (trodAll_cons_mk (Below.trod laidOut (by kernel_rfl) (of_decide_eq_true (by kernel_rfl)) k0 bel lt0) (trodAll_cons_mk (Below.trod laidOut (by kernel_rfl) (of_decide_eq_true (by kernel_rfl)) k1 bel lt1) (trodAll_cons_mk (Below.trod laidOut (by kernel_rfl) (of_decide_eq_true (by kernel_rfl)) k2 bel lt2) (trodAll_cons_mk (shut_int Try.underlying3 w3) trodAll_mk0)))), rfl, bel.frame _, fun h => by cases h⟩
theorem over : Rows.modInverseRow.holds Try.pinned (OpenSpec.ofChange Rows.modInverseSpec) :=
  OpenClaim.holds_of_wide 5 Try.f5 rfl rfl rfl rfl rfl rfl rfl ⟨rfl, rfl, rfl, rfl, rfl⟩ rfl rfl rfl rfl rfl (by kernel_rfl) Try.func5 (by kernel_rfl)
    (of_decide_eq_true (by kernel_rfl)) (by unfold Func.isWrapper; first | (rw [if_pos (by decide +kernel)]; kernel_rfl) | (rw [if_neg (by decide +kernel)]; exact ⟨rfl, rfl⟩))
    (fun os started H enc _ => lifted os started H enc)
theorem proved : Rows.ModInverseSaid := over
#print axioms proved
end Go.Proofs.Ytaaobpalpcdlbaa.modInverse
namespace Go.Proofs.Ytaaobpalpcdlbaa
/-- The row, under a short name, for the claim. -/
theorem modInverse_holds : Rows.ModInverseSaid := modInverse.proved
end Go.Proofs.Ytaaobpalpcdlbaa
