import Derived.Test.YtaaobpalpcdlbaaGreatPtA
import Derived.Test.YtaaobpalpcdlbaaGreatSxR
import Derived.Test.YtaaobpalpcdlbaaGreatRows
import Derived.WalkKit
import Derived.ProofKit
import Derived.OpenShut
import Derived.ShutString
import Derived.ChangeOld
import Derived.Below
import Derived.SizedLaws
import Derived.Carry
namespace Go.Proofs.YtaaobpalpcdlbaaGreat.pointAdds
open Go.ChangeShapes Go.WideShapes Go.ChangeAt Go.RowKit
open Go.ChangeMaps (open_string shut_string)
set_option linter.unusedVariables false
theorem own:ownKnob Tryz.prog.godebug=none:=by kernel_rfl
theorem laidOut:laidOutB Tryz.prog=true:=by kernel_rfl
set_option maxRecDepth 100000 in
theorem lifted (os:Os) (started:os.Started) (H:Type) (enc:TypeId × Value->H) :
  ReturnsInHanded {} Tryz.checked os 3 .any (Rows.pointAddsSpec.pre6 enc Tryz.prog Tryz.f3 Rows.pointAddsRow.domain false) (Rows.pointAddsSpec.post enc Tryz.prog Tryz.f3 false true false false):=by
 refine returnsInHanded_of_change_sized (C:=Tryz.checked) own started (by kernel_rfl) Tryz.func3
  (ChangeSpec.witness6 (enc:=enc) (C:=Tryz.checked) false ⟨#[],#[.agg #[.int .u64 0,.int .u64 0,.int .u64 0,.int .u64 0,.int .u64 0,.int .u64 0,.int .u64 0,.int .u64 0,.bool false],.agg #[.int .u64 0,.int .u64 0,.int .u64 0,.int .u64 0,.int .u64 0,.int .u64 0,.int .u64 0,.int .u64 0,.bool false],.agg #[.int .u64 0,.int .u64 0,.int .u64 0,.int .u64 0],.agg #[.int .u64 0,.int .u64 0,.int .u64 0,.int .u64 0]],[]⟩ 8 (by kernel_rfl) (by kernel_rfl) (by kernel_rfl) (by kernel_rfl)) ?_
 intro W base args ds gs before hval0 hW hcnd hsz0 _
 have hsz:(DataW.weightsEach Tryz.prog (Tryz.f3.params.toList ++ Rows.pointAddsSpec.plain.varTypes Tryz.prog) (ds ++ gs)).all (· <= reachBytes)=true:=hsz0
 have hval:∀ (j:Nat) t v,Tryz.f3.params[j]? = some t->args[j]? = some v->Value.okWide Tryz.prog W .any base t v:=hval0
 have hW':=hW
 obtain ⟨p,q,hA0,hV,rfl,hfz,hnd⟩:=hW
 have hA:DataW.TrodAll enc Tryz.prog W 0 (fun _=>true) true Tryz.f3.params.toList args.toList ds p:=hA0
 rw [Tryz.params3] at hA hval hsz
 obtain ⟨v0,vs0,d0,ds0,p0,q0,hargs,rfl,rfl,h0,r0⟩:=trodAll_cons hA
 obtain ⟨v1,vs1,d1,ds1,p1,q1,rfl,rfl,rfl,h1,r1⟩:=trodAll_cons r0
 obtain ⟨v2,vs2,d2,ds2,p2,q2,rfl,rfl,rfl,h2,r2⟩:=trodAll_cons r1
 obtain ⟨v3,vs3,d3,ds3,p3,q3,rfl,rfl,rfl,h3,r3⟩:=trodAll_cons r2
 obtain ⟨rfl,rfl,rfl⟩:=trodAll_nil r3
 obtain rfl:args=#[v0,v1,v2,v3]:=by cases args; simp_all
 obtain ⟨rfl,rfl⟩:=trodVars_none hV
 obtain ⟨xs0,rfl,hc0⟩:=Go.Sx.okWide_agg (t:=26) (by kernel_rfl) (hval 0 26 v0 rfl rfl)
 have k0:=h0
 have lt0:∀ x ∈ p0,x.block<W.heap.size:=by obtain ⟨m,hm⟩:=k0; exact DataW.trod_lt m _ _ _ hm
 have fl0_0:=Go.Sx.open_flat (n:=8) (ks:=[.int .u64,.int .u64,.int .u64,.int .u64,.int .u64,.int .u64,.int .u64,.int .u64,.bool]) (by kernel_rfl) h0
 obtain ⟨ax0,_,e0,w0_0,fl0_1⟩:=fl0_0.int
 obtain ⟨ax1,_,rfl,w0_1,fl0_2⟩:=fl0_1.int
 obtain ⟨ax2,_,rfl,w0_2,fl0_3⟩:=fl0_2.int
 obtain ⟨ax3,_,rfl,w0_3,fl0_4⟩:=fl0_3.int
 obtain ⟨ay0,_,rfl,w0_4,fl0_5⟩:=fl0_4.int
 obtain ⟨ay1,_,rfl,w0_5,fl0_6⟩:=fl0_5.int
 obtain ⟨ay2,_,rfl,w0_6,fl0_7⟩:=fl0_6.int
 obtain ⟨ay3,_,rfl,w0_7,fl0_8⟩:=fl0_7.int
 obtain ⟨ai,_,rfl,fl0_9⟩:=fl0_8.bool
 obtain rfl:=fl0_9.nil
 obtain rfl:xs0=#[.int .u64 ax0,.int .u64 ax1,.int .u64 ax2,.int .u64 ax3,.int .u64 ay0,.int .u64 ay1,.int .u64 ay2,.int .u64 ay3,.bool ai]:=Array.toList_inj.1 (by simpa using e0)
 obtain ⟨xs1,rfl,hc1⟩:=Go.Sx.okWide_agg (t:=26) (by kernel_rfl) (hval 1 26 v1 rfl rfl)
 have k1:=h1
 have lt1:∀ x ∈ p1,x.block<W.heap.size:=by obtain ⟨m,hm⟩:=k1; exact DataW.trod_lt m _ _ _ hm
 have fl1_0:=Go.Sx.open_flat (n:=8) (ks:=[.int .u64,.int .u64,.int .u64,.int .u64,.int .u64,.int .u64,.int .u64,.int .u64,.bool]) (by kernel_rfl) h1
 obtain ⟨bx0,_,e1,w1_0,fl1_1⟩:=fl1_0.int
 obtain ⟨bx1,_,rfl,w1_1,fl1_2⟩:=fl1_1.int
 obtain ⟨bx2,_,rfl,w1_2,fl1_3⟩:=fl1_2.int
 obtain ⟨bx3,_,rfl,w1_3,fl1_4⟩:=fl1_3.int
 obtain ⟨by0,_,rfl,w1_4,fl1_5⟩:=fl1_4.int
 obtain ⟨by1,_,rfl,w1_5,fl1_6⟩:=fl1_5.int
 obtain ⟨by2,_,rfl,w1_6,fl1_7⟩:=fl1_6.int
 obtain ⟨by3,_,rfl,w1_7,fl1_8⟩:=fl1_7.int
 obtain ⟨bi,_,rfl,fl1_9⟩:=fl1_8.bool
 obtain rfl:=fl1_9.nil
 obtain rfl:xs1=#[.int .u64 bx0,.int .u64 bx1,.int .u64 bx2,.int .u64 bx3,.int .u64 by0,.int .u64 by1,.int .u64 by2,.int .u64 by3,.bool bi]:=Array.toList_inj.1 (by simpa using e1)
 obtain ⟨xs2,rfl,hc2⟩:=Go.Sx.okWide_agg (t:=24) (by kernel_rfl) (hval 2 24 v2 rfl rfl)
 have k2:=h2
 have lt2:∀ x ∈ p2,x.block<W.heap.size:=by obtain ⟨m,hm⟩:=k2; exact DataW.trod_lt m _ _ _ hm
 have fl2_0:=Go.Sx.open_flat (n:=8) (ks:=[.int .u64,.int .u64,.int .u64,.int .u64]) (by kernel_rfl) h2
 obtain ⟨j0,_,e2,w2_0,fl2_1⟩:=fl2_0.int
 obtain ⟨j1,_,rfl,w2_1,fl2_2⟩:=fl2_1.int
 obtain ⟨j2,_,rfl,w2_2,fl2_3⟩:=fl2_2.int
 obtain ⟨j3,_,rfl,w2_3,fl2_4⟩:=fl2_3.int
 obtain rfl:=fl2_4.nil
 obtain rfl:xs2=#[.int .u64 j0,.int .u64 j1,.int .u64 j2,.int .u64 j3]:=Array.toList_inj.1 (by simpa using e2)
 obtain ⟨xs3,rfl,hc3⟩:=Go.Sx.okWide_agg (t:=24) (by kernel_rfl) (hval 3 24 v3 rfl rfl)
 have k3:=h3
 have lt3:∀ x ∈ p3,x.block<W.heap.size:=by obtain ⟨m,hm⟩:=k3; exact DataW.trod_lt m _ _ _ hm
 have fl3_0:=Go.Sx.open_flat (n:=8) (ks:=[.int .u64,.int .u64,.int .u64,.int .u64]) (by kernel_rfl) h3
 obtain ⟨d0,_,e3,w3_0,fl3_1⟩:=fl3_0.int
 obtain ⟨d1,_,rfl,w3_1,fl3_2⟩:=fl3_1.int
 obtain ⟨d2,_,rfl,w3_2,fl3_3⟩:=fl3_2.int
 obtain ⟨d3,_,rfl,w3_3,fl3_4⟩:=fl3_3.int
 obtain rfl:=fl3_4.nil
 obtain rfl:xs3=#[.int .u64 d0,.int .u64 d1,.int .u64 d2,.int .u64 d3]:=Array.toList_inj.1 (by simpa using e3)
 clear hA0 hval0 hsz0 hsz
 refine (Go.Proofs.YtaaobpalpcdlbaaGreat.Bits.walkPointAdds ax0 ax1 ax2 ax3 ay0 ay1 ay2 ay3 ai bx0 bx1 bx2 bx3 by0 by1 by2 by3 bi j0 j1 j2 j3 d0 d1 d2 d3 W w0_0 w0_1 w0_2 w0_3 w0_4 w0_5 w0_6 w0_7 w1_0 w1_1 w1_2 w1_3 w1_4 w1_5 w1_6 w1_7 w2_0 w2_1 w2_2 w2_3 w3_0 w3_1 w3_2 w3_3).mono fun e W' ⟨he,bel⟩=>?_
 subst he
 exact ⟨_,rfl,_,_,_,[],_,[],hW',trodAll_mk1 (shut_bool Tryz.underlying4 _),(trodAll_cons_mk (Below.trod laidOut (by kernel_rfl) (of_decide_eq_true (by kernel_rfl)) k0 bel lt0) (trodAll_cons_mk (Below.trod laidOut (by kernel_rfl) (of_decide_eq_true (by kernel_rfl)) k1 bel lt1) (trodAll_cons_mk (Below.trod laidOut (by kernel_rfl) (of_decide_eq_true (by kernel_rfl)) k2 bel lt2) (trodAll_cons_mk (Below.trod laidOut (by kernel_rfl) (of_decide_eq_true (by kernel_rfl)) k3 bel lt3) trodAll_mk0)))),rfl,bel.frame _,fun h=>by cases h⟩
theorem over:Rows.pointAddsRow.holds Tryz.pinned (OpenSpec.ofChange Rows.pointAddsSpec) :=
 OpenClaim.holds_of_wide 3 Tryz.f3 rfl rfl rfl rfl rfl rfl rfl ⟨rfl,rfl,rfl,rfl,rfl⟩ rfl rfl rfl rfl rfl (by kernel_rfl) Tryz.func3 (by kernel_rfl)
  (of_decide_eq_true (by kernel_rfl)) (by unfold Func.isWrapper; first | (rw [if_pos (by decide +kernel)]; kernel_rfl) | (rw [if_neg (by decide +kernel)]; exact ⟨rfl,rfl⟩))
  (fun os started H enc _=>lifted os started H enc)
theorem proved:Rows.PointAddsSaid:=over
#print axioms proved
end Go.Proofs.YtaaobpalpcdlbaaGreat.pointAdds
namespace Go.Proofs.YtaaobpalpcdlbaaGreat
theorem pointAdds_holds:Rows.PointAddsSaid:=pointAdds.proved
end Go.Proofs.YtaaobpalpcdlbaaGreat
