import Derived.Test.YthnfbhkfcejjgaaK
import Derived.Test.YthnfbhkfcejjgaaSxR
import Derived.Test.YthnfbhkfcejjgaaSxS
import Derived.Test.YthnfbhkfcejjgaaRows
import Derived.WalkKit
import Derived.ProofKit
import Derived.OpenShut
import Derived.ShutString
import Derived.ChangeOld
import Derived.Below
import Derived.SizedLaws
import Derived.Carry
namespace Go.Proofs.Ythnfbhkfcejjgaa.discSlowly
open Go.ChangeShapes Go.WideShapes Go.ChangeAt Go.RowKit
open Go.ChangeMaps (open_string shut_string)
set_option linter.unusedVariables false
theorem own : ownKnob Try.prog.godebug = none := by kernel_rfl
theorem laidOut : laidOutB Try.prog = true := by kernel_rfl
set_option maxRecDepth 100000 in
theorem lifted (os : Os) (started : os.Started) (H : Type) (enc : TypeId × Value → H) :
    ReturnsInHanded {} Try.checked os 3 .any (Rows.discSlowlySpec.pre6 enc Try.prog Try.f3 Rows.discSlowlyRow.domain false) (Rows.discSlowlySpec.post enc Try.prog Try.f3 false true false false) := by
  refine returnsInHanded_of_change_sized (C := Try.checked) own started (by kernel_rfl) Try.func3
    (ChangeSpec.witness6 (enc := enc) (C := Try.checked) false ⟨#[], #[.agg #[.int .i64 0, .int .i64 0, .int .i64 0, .int .i64 0, .int .i64 0], .slice none 0 0], []⟩ 8 (by kernel_rfl) (by kernel_rfl) (by kernel_rfl) (by kernel_rfl)) ?_
  intro W base args ds gs before hval0 hW hcnd hsz0 _
  have hsz : (DataW.weightsEach Try.prog (Try.f3.params.toList ++ Rows.discSlowlySpec.plain.varTypes Try.prog) (ds ++ gs)).all (· ≤ reachBytes) = true := hsz0
  have hval : ∀ (j : Nat) t v, Try.f3.params[j]? = some t → args[j]? = some v → Value.okWide Try.prog W .any base t v := hval0
  have hW' := hW
  obtain ⟨p, q, hA0, hV, rfl, hfz, hnd⟩ := hW
  have hA : DataW.TrodAll enc Try.prog W 0 (fun _ => true) true Try.f3.params.toList args.toList ds p := hA0
  rw [Try.params3] at hA hval hsz
  obtain ⟨v0, vs0, d0, ds0, p0, q0, hargs, rfl, rfl, h0, r0⟩ := trodAll_cons hA
  obtain ⟨v1, vs1, d1, ds1, p1, q1, rfl, rfl, rfl, h1, r1⟩ := trodAll_cons r0
  obtain ⟨rfl, rfl, rfl⟩ := trodAll_nil r1
  obtain rfl : args = #[v0, v1] := by cases args; simp_all
  obtain ⟨rfl, rfl⟩ := trodVars_none hV
  obtain ⟨xs0, rfl, hc0⟩ := Go.Sx.okWide_agg (t := 23) (by kernel_rfl) (hval 0 23 v0 rfl rfl)
  have k0 := h0
  have lt0 : ∀ x ∈ p0, x.block < W.heap.size := by obtain ⟨m, hm⟩ := k0; exact DataW.trod_lt m _ _ _ hm
  have fl0_0 := Go.Sx.open_flat (n := 8) (ks := [.int .i64, .int .i64, .int .i64, .int .i64, .int .i64]) (by kernel_rfl) h0
  obtain ⟨u, _, e0, w0_0, fl0_1⟩ := fl0_0.int
  obtain ⟨s, _, rfl, w0_1, fl0_2⟩ := fl0_1.int
  obtain ⟨w, _, rfl, w0_2, fl0_3⟩ := fl0_2.int
  obtain ⟨p, _, rfl, w0_3, fl0_4⟩ := fl0_3.int
  obtain ⟨c, _, rfl, w0_4, fl0_5⟩ := fl0_4.int
  obtain rfl := fl0_5.nil
  obtain rfl : xs0 = #[.int .i64 u, .int .i64 s, .int .i64 w, .int .i64 p, .int .i64 c] := Array.toList_inj.1 (by simpa using e0)
  have k1 := h1
  have lt1 : ∀ x ∈ p1, x.block < W.heap.size := by obtain ⟨m, hm⟩ := k1; exact DataW.trod_lt m _ _ _ hm
  have sl1 := Go.Sx.open_sl (m := 8) (ks := [.int .u16]) Try.underlying24 (by kernel_rfl) (by kernel_rfl) (hval 1 24 v1 rfl rfl) h1
  clear hA0 hval0 hsz0 hsz
  rcases sl1 with rfl | ⟨sa1, sn1, sc1, fs1, rfl, hl1, hm1, ks1_0, hb1⟩
  · refine (Go.Proofs.Ythnfbhkfcejjgaa.D.walkDiscSlowlyN u s w p c W w0_0 w0_1 w0_2 w0_3 w0_4).mono fun e W' ⟨he, bel⟩ => ?_
    subst he
    exact ⟨_, rfl, _, _, _, [], _, [], hW', trodAll_mk1 (shut_bool Try.underlying4 _), (trodAll_cons_mk (Below.trod laidOut (by kernel_rfl) (of_decide_eq_true (by kernel_rfl)) k0 bel lt0) (trodAll_cons_mk (Below.trod laidOut (by kernel_rfl) (of_decide_eq_true (by kernel_rfl)) k1 bel lt1) trodAll_mk0)), rfl, bel.frame _, fun h => by cases h⟩
  · obtain ⟨fl1_0, _, rfl, wl1_0, ks1_1⟩ := ks1_0.int
    obtain rfl := ks1_1.nil
    refine (Go.Proofs.Ythnfbhkfcejjgaa.D.walkDiscSlowly u s w p c sa1 (sn1 : Int) sc1 fl1_0 W w0_0 w0_1 w0_2 w0_3 w0_4 ⟨Int.natCast_nonneg _, Int.ofNat_le.2 hl1⟩ hm1 hb1 wl1_0).mono fun e W' ⟨he, bel⟩ => ?_
    subst he
    exact ⟨_, rfl, _, _, _, [], _, [], hW', trodAll_mk1 (shut_bool Try.underlying4 _), (trodAll_cons_mk (Below.trod laidOut (by kernel_rfl) (of_decide_eq_true (by kernel_rfl)) k0 bel lt0) (trodAll_cons_mk (Below.trod laidOut (by kernel_rfl) (of_decide_eq_true (by kernel_rfl)) k1 bel lt1) trodAll_mk0)), rfl, bel.frame _, fun h => by cases h⟩
theorem over : Rows.discSlowlyRow.holds Try.pinned (OpenSpec.ofChange Rows.discSlowlySpec) :=
  OpenClaim.holds_of_wide 3 Try.f3 rfl rfl rfl rfl rfl rfl rfl ⟨rfl, rfl, rfl, rfl, rfl⟩ rfl rfl rfl rfl rfl (by kernel_rfl) Try.func3 (by kernel_rfl)
    (of_decide_eq_true (by kernel_rfl)) (by unfold Func.isWrapper; first | (rw [if_pos (by decide +kernel)]; kernel_rfl) | (rw [if_neg (by decide +kernel)]; exact ⟨rfl, rfl⟩))
    (fun os started H enc _ => lifted os started H enc)
theorem proved : Rows.DiscSlowlySaid := over
#print axioms proved
end Go.Proofs.Ythnfbhkfcejjgaa.discSlowly
namespace Go.Proofs.Ythnfbhkfcejjgaa
theorem discSlowly_holds : Rows.DiscSlowlySaid := discSlowly.proved
end Go.Proofs.Ythnfbhkfcejjgaa
