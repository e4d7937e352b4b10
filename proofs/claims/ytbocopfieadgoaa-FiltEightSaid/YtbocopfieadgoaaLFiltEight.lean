import Derived.Test.YtbocopfieadgoaaNE
import Derived.Test.YtbocopfieadgoaaSxR
import Derived.Test.YtbocopfieadgoaaSxS
import Derived.Test.YtbocopfieadgoaaRows
import Derived.WalkKit
import Derived.ProofKit
import Derived.OpenShut
import Derived.ShutString
import Derived.ChangeOld
import Derived.Below
import Derived.SizedLaws
import Derived.Carry
namespace Go.Proofs.Ytbocopfieadgoaa.filtEight
open Go.ChangeShapes Go.WideShapes Go.ChangeAt Go.RowKit
open Go.ChangeMaps (open_string shut_string)
set_option linter.unusedVariables false
theorem own : ownKnob Try.prog.godebug = none := by kernel_rfl
theorem laidOut : laidOutB Try.prog = true := by kernel_rfl
set_option maxRecDepth 100000 in
theorem lifted (os : Os) (started : os.Started) (H : Type) (enc : TypeId × Value → H) :
    ReturnsInHanded {} Try.checked os 5 .any (Rows.filtEightSpec.pre6 enc Try.prog Try.f5 Rows.filtEightRow.domain false) (Rows.filtEightSpec.post enc Try.prog Try.f5 false true false false) := by
  refine returnsInHanded_of_change_sized (C := Try.checked) own started (by kernel_rfl) Try.func5
    (ChangeSpec.witness6 (enc := enc) (C := Try.checked) false ⟨#[], #[.slice none 0 0, .slice none 0 0], []⟩ 8 (by kernel_rfl) (by kernel_rfl) (by kernel_rfl) (by kernel_rfl)) ?_
  intro W base args ds gs before hval0 hW hcnd hsz0 _
  have hsz : (DataW.weightsEach Try.prog (Try.f5.params.toList ++ Rows.filtEightSpec.plain.varTypes Try.prog) (ds ++ gs)).all (· ≤ reachBytes) = true := hsz0
  have hval : ∀ (j : Nat) t v, Try.f5.params[j]? = some t → args[j]? = some v → Value.okWide Try.prog W .any base t v := hval0
  have hW' := hW
  obtain ⟨p, q, hA0, hV, rfl, hfz, hnd⟩ := hW
  have hA : DataW.TrodAll enc Try.prog W 0 (fun _ => true) true Try.f5.params.toList args.toList ds p := hA0
  rw [Try.params5] at hA hval hsz
  obtain ⟨v0, vs0, d0, ds0, p0, q0, hargs, rfl, rfl, h0, r0⟩ := trodAll_cons hA
  obtain ⟨v1, vs1, d1, ds1, p1, q1, rfl, rfl, rfl, h1, r1⟩ := trodAll_cons r0
  obtain ⟨rfl, rfl, rfl⟩ := trodAll_nil r1
  obtain rfl : args = #[v0, v1] := by cases args; simp_all
  obtain ⟨rfl, rfl⟩ := trodVars_none hV
  have k0 := h0
  have lt0 : ∀ x ∈ p0, x.block < W.heap.size := by obtain ⟨m, hm⟩ := k0; exact DataW.trod_lt m _ _ _ hm
  have sl0 := Go.Sx.open_sl (m := 8) (ks := [.int .i64, .int .i64, .int .i64, .int .i64]) Try.underlying30 (by kernel_rfl) (by kernel_rfl) (hval 0 30 v0 rfl rfl) h0
  have k1 := h1
  have lt1 : ∀ x ∈ p1, x.block < W.heap.size := by obtain ⟨m, hm⟩ := k1; exact DataW.trod_lt m _ _ _ hm
  have sl1 := Go.Sx.open_sl (m := 8) (ks := [.int .i64, .int .i64, .int .i64, .int .i64]) Try.underlying30 (by kernel_rfl) (by kernel_rfl) (hval 1 30 v1 rfl rfl) h1
  clear hA0 hval0 hsz0 hsz
  rcases sl0 with rfl | ⟨sa0, sn0, sc0, fs0, rfl, hl0, hm0, ks0_0, hb0⟩
  · rcases sl1 with rfl | ⟨sa1, sn1, sc1, fs1, rfl, hl1, hm1, ks1_0, hb1⟩
    · refine (Go.Proofs.Ytbocopfieadgoaa.J.walkFiltEightN01  W ).mono fun e W' ⟨he, bel⟩ => ?_
      subst he
      exact ⟨_, rfl, _, _, _, [], _, [], hW', trodAll_mk1 (shut_bool Try.underlying4 _), (trodAll_cons_mk (Below.trod laidOut (by kernel_rfl) (of_decide_eq_true (by kernel_rfl)) k0 bel lt0) (trodAll_cons_mk (Below.trod laidOut (by kernel_rfl) (of_decide_eq_true (by kernel_rfl)) k1 bel lt1) trodAll_mk0)), rfl, bel.frame _, fun h => by cases h⟩
    · obtain ⟨fl1_0, _, rfl, wl1_0, ks1_1⟩ := ks1_0.int
      obtain ⟨fl1_1, _, rfl, wl1_1, ks1_2⟩ := ks1_1.int
      obtain ⟨fl1_2, _, rfl, wl1_2, ks1_3⟩ := ks1_2.int
      obtain ⟨fl1_3, _, rfl, wl1_3, ks1_4⟩ := ks1_3.int
      obtain rfl := ks1_4.nil
      refine (Go.Proofs.Ytbocopfieadgoaa.J.walkFiltEightN0 sa1 (sn1 : Int) sc1 fl1_0 fl1_1 fl1_2 fl1_3 W ⟨Int.natCast_nonneg _, Int.ofNat_le.2 hl1⟩ hm1 hb1 wl1_0 wl1_1 wl1_2 wl1_3).mono fun e W' ⟨he, bel⟩ => ?_
      subst he
      exact ⟨_, rfl, _, _, _, [], _, [], hW', trodAll_mk1 (shut_bool Try.underlying4 _), (trodAll_cons_mk (Below.trod laidOut (by kernel_rfl) (of_decide_eq_true (by kernel_rfl)) k0 bel lt0) (trodAll_cons_mk (Below.trod laidOut (by kernel_rfl) (of_decide_eq_true (by kernel_rfl)) k1 bel lt1) trodAll_mk0)), rfl, bel.frame _, fun h => by cases h⟩
  · obtain ⟨fl0_0, _, rfl, wl0_0, ks0_1⟩ := ks0_0.int
    obtain ⟨fl0_1, _, rfl, wl0_1, ks0_2⟩ := ks0_1.int
    obtain ⟨fl0_2, _, rfl, wl0_2, ks0_3⟩ := ks0_2.int
    obtain ⟨fl0_3, _, rfl, wl0_3, ks0_4⟩ := ks0_3.int
    obtain rfl := ks0_4.nil
    rcases sl1 with rfl | ⟨sa1, sn1, sc1, fs1, rfl, hl1, hm1, ks1_0, hb1⟩
    · refine (Go.Proofs.Ytbocopfieadgoaa.J.walkFiltEightN1 sa0 (sn0 : Int) sc0 fl0_0 fl0_1 fl0_2 fl0_3 W ⟨Int.natCast_nonneg _, Int.ofNat_le.2 hl0⟩ hm0 hb0 wl0_0 wl0_1 wl0_2 wl0_3).mono fun e W' ⟨he, bel⟩ => ?_
      subst he
      exact ⟨_, rfl, _, _, _, [], _, [], hW', trodAll_mk1 (shut_bool Try.underlying4 _), (trodAll_cons_mk (Below.trod laidOut (by kernel_rfl) (of_decide_eq_true (by kernel_rfl)) k0 bel lt0) (trodAll_cons_mk (Below.trod laidOut (by kernel_rfl) (of_decide_eq_true (by kernel_rfl)) k1 bel lt1) trodAll_mk0)), rfl, bel.frame _, fun h => by cases h⟩
    · obtain ⟨fl1_0, _, rfl, wl1_0, ks1_1⟩ := ks1_0.int
      obtain ⟨fl1_1, _, rfl, wl1_1, ks1_2⟩ := ks1_1.int
      obtain ⟨fl1_2, _, rfl, wl1_2, ks1_3⟩ := ks1_2.int
      obtain ⟨fl1_3, _, rfl, wl1_3, ks1_4⟩ := ks1_3.int
      obtain rfl := ks1_4.nil
      refine (Go.Proofs.Ytbocopfieadgoaa.J.walkFiltEight sa0 (sn0 : Int) sc0 fl0_0 fl0_1 fl0_2 fl0_3 sa1 (sn1 : Int) sc1 fl1_0 fl1_1 fl1_2 fl1_3 W ⟨Int.natCast_nonneg _, Int.ofNat_le.2 hl0⟩ hm0 hb0 wl0_0 wl0_1 wl0_2 wl0_3 ⟨Int.natCast_nonneg _, Int.ofNat_le.2 hl1⟩ hm1 hb1 wl1_0 wl1_1 wl1_2 wl1_3).mono fun e W' ⟨he, bel⟩ => ?_
      subst he
      exact ⟨_, rfl, _, _, _, [], _, [], hW', trodAll_mk1 (shut_bool Try.underlying4 _), (trodAll_cons_mk (Below.trod laidOut (by kernel_rfl) (of_decide_eq_true (by kernel_rfl)) k0 bel lt0) (trodAll_cons_mk (Below.trod laidOut (by kernel_rfl) (of_decide_eq_true (by kernel_rfl)) k1 bel lt1) trodAll_mk0)), rfl, bel.frame _, fun h => by cases h⟩
theorem over : Rows.filtEightRow.holds Try.pinned (OpenSpec.ofChange Rows.filtEightSpec) :=
  OpenClaim.holds_of_wide 5 Try.f5 rfl rfl rfl rfl rfl rfl rfl ⟨rfl, rfl, rfl, rfl, rfl⟩ rfl rfl rfl rfl rfl (by kernel_rfl) Try.func5 (by kernel_rfl)
    (of_decide_eq_true (by kernel_rfl)) (by unfold Func.isWrapper; first | (rw [if_pos (by decide +kernel)]; kernel_rfl) | (rw [if_neg (by decide +kernel)]; exact ⟨rfl, rfl⟩))
    (fun os started H enc _ => lifted os started H enc)
theorem proved : Rows.FiltEightSaid := over
#print axioms proved
end Go.Proofs.Ytbocopfieadgoaa.filtEight
namespace Go.Proofs.Ytbocopfieadgoaa
theorem filtEight_holds : Rows.FiltEightSaid := filtEight.proved
end Go.Proofs.Ytbocopfieadgoaa
