import Derived.Test.YtaaobpalpcdlbaaGreatEd9
import Derived.Test.YtaaobpalpcdlbaaGreatSxR
import Derived.Test.YtaaobpalpcdlbaaGreatRows
import Derived.WalkKit
import Derived.ProofKit
import Derived.OpenShut
import Derived.ShutString
import Derived.ChangeOld
import Derived.Below
import Derived.SizedLaws
import Derived.Carry
namespace Go.Proofs.YtaaobpalpcdlbaaGreat.ecdsaSigns
open Go.ChangeShapes Go.WideShapes Go.ChangeAt Go.RowKit
open Go.ChangeMaps (open_string shut_string)
set_option linter.unusedVariables false
theorem own:ownKnob Tryz.prog.godebug=none:=by kernel_rfl
theorem laidOut:laidOutB Tryz.prog=true:=by kernel_rfl
set_option maxRecDepth 100000 in
theorem lifted (os:Os) (started:os.Started) (H:Type) (enc:TypeId×Value->H) :
  ReturnsInHanded {} Tryz.checked os 5 .any (Rows.ecdsaSignsSpec.pre6 enc Tryz.prog Tryz.f5 Rows.ecdsaSignsRow.domain false) (Rows.ecdsaSignsSpec.post enc Tryz.prog Tryz.f5 false true false false):=by
 refine returnsInHanded_of_change_sized (C:=Tryz.checked) own started (by kernel_rfl) Tryz.func5
  (ChangeSpec.witness6 (enc:=enc) (C:=Tryz.checked) false ⟨#[],#[.agg #[.int .u64 0,.int .u64 0,.int .u64 0,.int .u64 0],.agg #[.int .u64 0,.int .u64 0,.int .u64 0,.int .u64 0],.string ByteArray.empty,.agg #[.int .u64 0,.int .u64 0,.int .u64 0,.int .u64 0,.int .u64 0,.int .u64 0,.int .u64 0,.int .u64 0]],[]⟩ 8 (by kernel_rfl) (by kernel_rfl) (by kernel_rfl) (by kernel_rfl)) ?_
 intro W base args ds gs before hval0 hW hcnd hsz0 _
 have hsz:(DataW.weightsEach Tryz.prog (Tryz.f5.params.toList++Rows.ecdsaSignsSpec.plain.varTypes Tryz.prog) (ds++gs)).all (· <= reachBytes)=true:=hsz0
 have hval:∀ (j:Nat) t v,Tryz.f5.params[j]? = some t->args[j]? = some v->Value.okWide Tryz.prog W .any base t v:=hval0
 have hW':=hW
 obtain ⟨p,q,hA0,hV,rfl,hfz,hnd⟩:=hW
 have hA:DataW.TrodAll enc Tryz.prog W 0 (fun _=>true) true Tryz.f5.params.toList args.toList ds p:=hA0
 rw [Tryz.params5] at hA hval hsz
 obtain ⟨v0,vs0,d0,ds0,p0,q0,hargs,rfl,rfl,h0,r0⟩:=trodAll_cons hA
 obtain ⟨v1,vs1,d1,ds1,p1,q1,rfl,rfl,rfl,h1,r1⟩:=trodAll_cons r0
 obtain ⟨v2,vs2,d2,ds2,p2,q2,rfl,rfl,rfl,h2,r2⟩:=trodAll_cons r1
 obtain ⟨v3,vs3,d3,ds3,p3,q3,rfl,rfl,rfl,h3,r3⟩:=trodAll_cons r2
 obtain ⟨rfl,rfl,rfl⟩:=trodAll_nil r3
 obtain rfl:args=#[v0,v1,v2,v3]:=by cases args; simp_all
 obtain ⟨rfl,rfl⟩:=trodVars_none hV
 obtain ⟨xs0,rfl,hc0⟩:=Go.Sx.okWide_agg (t:=24) (by kernel_rfl) (hval 0 24 v0 rfl rfl)
 have k0:=h0
 have lt0:∀ x ∈ p0,x.block<W.heap.size:=by obtain ⟨m,hm⟩:=k0; exact DataW.trod_lt m _ _ _ hm
 have fl0_0:=Go.Sx.open_flat (n:=8) (ks:=[.int .u64,.int .u64,.int .u64,.int .u64]) (by kernel_rfl) h0
 obtain ⟨d0,_,e0,w0_0,fl0_1⟩:=fl0_0.int
 obtain ⟨d1,_,rfl,w0_1,fl0_2⟩:=fl0_1.int
 obtain ⟨d2,_,rfl,w0_2,fl0_3⟩:=fl0_2.int
 obtain ⟨d3,_,rfl,w0_3,fl0_4⟩:=fl0_3.int
 obtain rfl:=fl0_4.nil
 obtain rfl:xs0=#[.int .u64 d0,.int .u64 d1,.int .u64 d2,.int .u64 d3]:=Array.toList_inj.1 (by simpa using e0)
 obtain ⟨xs1,rfl,hc1⟩:=Go.Sx.okWide_agg (t:=24) (by kernel_rfl) (hval 1 24 v1 rfl rfl)
 have k1:=h1
 have lt1:∀ x ∈ p1,x.block<W.heap.size:=by obtain ⟨m,hm⟩:=k1; exact DataW.trod_lt m _ _ _ hm
 have fl1_0:=Go.Sx.open_flat (n:=8) (ks:=[.int .u64,.int .u64,.int .u64,.int .u64]) (by kernel_rfl) h1
 obtain ⟨b0,_,e1,w1_0,fl1_1⟩:=fl1_0.int
 obtain ⟨b1,_,rfl,w1_1,fl1_2⟩:=fl1_1.int
 obtain ⟨b2,_,rfl,w1_2,fl1_3⟩:=fl1_2.int
 obtain ⟨b3,_,rfl,w1_3,fl1_4⟩:=fl1_3.int
 obtain rfl:=fl1_4.nil
 obtain rfl:xs1=#[.int .u64 b0,.int .u64 b1,.int .u64 b2,.int .u64 b3]:=Array.toList_inj.1 (by simpa using e1)
 obtain ⟨a2,rfl,rfl,rfl,y2⟩:=open_string Tryz.underlying9 (hval 2 9 v2 rfl rfl) h2
 have w2:a2.size<=140737488351232:=by
  have z:=sized_string hsz (j:=2) (t:=9) rfl rfl
  rw [Array.length_toList] at z
  exact z
 obtain ⟨xs3,rfl,hc3⟩:=Go.Sx.okWide_agg (t:=34) (by kernel_rfl) (hval 3 34 v3 rfl rfl)
 have k3:=h3
 have lt3:∀ x ∈ p3,x.block<W.heap.size:=by obtain ⟨m,hm⟩:=k3; exact DataW.trod_lt m _ _ _ hm
 have fl3_0:=Go.Sx.open_flat (n:=8) (ks:=[.int .u64,.int .u64,.int .u64,.int .u64,.int .u64,.int .u64,.int .u64,.int .u64]) (by kernel_rfl) h3
 obtain ⟨gr0,_,e3,w3_0,fl3_1⟩:=fl3_0.int
 obtain ⟨gr1,_,rfl,w3_1,fl3_2⟩:=fl3_1.int
 obtain ⟨gr2,_,rfl,w3_2,fl3_3⟩:=fl3_2.int
 obtain ⟨gr3,_,rfl,w3_3,fl3_4⟩:=fl3_3.int
 obtain ⟨gs0,_,rfl,w3_4,fl3_5⟩:=fl3_4.int
 obtain ⟨gs1,_,rfl,w3_5,fl3_6⟩:=fl3_5.int
 obtain ⟨gs2,_,rfl,w3_6,fl3_7⟩:=fl3_6.int
 obtain ⟨gs3,_,rfl,w3_7,fl3_8⟩:=fl3_7.int
 obtain rfl:=fl3_8.nil
 obtain rfl:xs3=#[.int .u64 gr0,.int .u64 gr1,.int .u64 gr2,.int .u64 gr3,.int .u64 gs0,.int .u64 gs1,.int .u64 gs2,.int .u64 gs3]:=Array.toList_inj.1 (by simpa using e3)
 clear hA0 hval0 hsz0 hsz
 refine (Go.Proofs.YtaaobpalpcdlbaaGreat.Bits.walkEcdsaSigns d0 d1 d2 d3 b0 b1 b2 b3 a2 gr0 gr1 gr2 gr3 gs0 gs1 gs2 gs3 W w0_0 w0_1 w0_2 w0_3 w1_0 w1_1 w1_2 w1_3 w2 w3_0 w3_1 w3_2 w3_3 w3_4 w3_5 w3_6 w3_7).mono fun e W' ⟨he,bel⟩=>?_
 subst he
 exact ⟨_,rfl,_,_,_,[],_,[],hW',trodAll_mk1 (shut_bool Tryz.underlying4 _),(trodAll_cons_mk (Below.trod laidOut (by kernel_rfl) (of_decide_eq_true (by kernel_rfl)) k0 bel lt0) (trodAll_cons_mk (Below.trod laidOut (by kernel_rfl) (of_decide_eq_true (by kernel_rfl)) k1 bel lt1) (trodAll_cons_mk (shut_string Tryz.underlying9 y2) (trodAll_cons_mk (Below.trod laidOut (by kernel_rfl) (of_decide_eq_true (by kernel_rfl)) k3 bel lt3) trodAll_mk0)))),rfl,bel.frame _,fun h=>by cases h⟩
theorem over:Rows.ecdsaSignsRow.holds Tryz.pinned (OpenSpec.ofChange Rows.ecdsaSignsSpec) :=
 OpenClaim.holds_of_wide 5 Tryz.f5 rfl rfl rfl rfl rfl rfl rfl ⟨rfl,rfl,rfl,rfl,rfl⟩ rfl rfl rfl rfl rfl (by kernel_rfl) Tryz.func5 (by kernel_rfl)
  (of_decide_eq_true (by kernel_rfl)) (by unfold Func.isWrapper; first | (rw [if_pos (by decide +kernel)]; kernel_rfl) | (rw [if_neg (by decide +kernel)]; exact ⟨rfl,rfl⟩))
  (fun os started H enc _=>lifted os started H enc)
theorem proved:Rows.EcdsaSignsSaid:=over
#print axioms proved
end Go.Proofs.YtaaobpalpcdlbaaGreat.ecdsaSigns
namespace Go.Proofs.YtaaobpalpcdlbaaGreat
theorem ecdsaSigns_holds:Rows.EcdsaSignsSaid:=ecdsaSigns.proved
end Go.Proofs.YtaaobpalpcdlbaaGreat
