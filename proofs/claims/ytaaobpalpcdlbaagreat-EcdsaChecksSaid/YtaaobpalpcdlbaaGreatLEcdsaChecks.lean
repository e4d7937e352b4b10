import Derived.Test.YtaaobpalpcdlbaaGreatEd9
import Derived.Test.YtaaobpalpcdlbaaGreatSxR
import Derived.Test.YtaaobpalpcdlbaaGreatRows
import Derived.WalkKit
import Derived.ProofKit
import Derived.OpenShut
import Derived.ShutString
import Derived.ChangeOld
import Derived.Below
import Derived.SizedLaws
import Derived.Carry
namespace Go.Proofs.YtaaobpalpcdlbaaGreat.ecdsaChecks
open Go.ChangeShapes Go.WideShapes Go.ChangeAt Go.RowKit
open Go.ChangeMaps (open_string shut_string)
set_option linter.unusedVariables false
theorem own:ownKnob Tryz.prog.godebug=none:=by kernel_rfl
theorem laidOut:laidOutB Tryz.prog=true:=by kernel_rfl
set_option maxRecDepth 100000 in
theorem lifted (os:Os) (started:os.Started) (H:Type) (enc:TypeId×Value->H) :
  ReturnsInHanded {} Tryz.checked os 4 .any (Rows.ecdsaChecksSpec.pre6 enc Tryz.prog Tryz.f4 Rows.ecdsaChecksRow.domain false) (Rows.ecdsaChecksSpec.post enc Tryz.prog Tryz.f4 false true false false):=by
 refine returnsInHanded_of_change_sized (C:=Tryz.checked) own started (by kernel_rfl) Tryz.func4
  (ChangeSpec.witness6 (enc:=enc) (C:=Tryz.checked) false ⟨#[],#[.agg #[.int .u64 0,.int .u64 0,.int .u64 0,.int .u64 0,.int .u64 0,.int .u64 0,.int .u64 0,.int .u64 0,.bool false],.string ByteArray.empty,.agg #[.int .u64 0,.int .u64 0,.int .u64 0,.int .u64 0,.int .u64 0,.int .u64 0,.int .u64 0,.int .u64 0]],[]⟩ 8 (by kernel_rfl) (by kernel_rfl) (by kernel_rfl) (by kernel_rfl)) ?_
 intro W base args ds gs before hval0 hW hcnd hsz0 _
 have hsz:(DataW.weightsEach Tryz.prog (Tryz.f4.params.toList++Rows.ecdsaChecksSpec.plain.varTypes Tryz.prog) (ds++gs)).all (· <= reachBytes)=true:=hsz0
 have hval:∀ (j:Nat) t v,Tryz.f4.params[j]? = some t->args[j]? = some v->Value.okWide Tryz.prog W .any base t v:=hval0
 have hW':=hW
 obtain ⟨p,q,hA0,hV,rfl,hfz,hnd⟩:=hW
 have hA:DataW.TrodAll enc Tryz.prog W 0 (fun _=>true) true Tryz.f4.params.toList args.toList ds p:=hA0
 rw [Tryz.params4] at hA hval hsz
 obtain ⟨v0,vs0,d0,ds0,p0,q0,hargs,rfl,rfl,h0,r0⟩:=trodAll_cons hA
 obtain ⟨v1,vs1,d1,ds1,p1,q1,rfl,rfl,rfl,h1,r1⟩:=trodAll_cons r0
 obtain ⟨v2,vs2,d2,ds2,p2,q2,rfl,rfl,rfl,h2,r2⟩:=trodAll_cons r1
 obtain ⟨rfl,rfl,rfl⟩:=trodAll_nil r2
 obtain rfl:args=#[v0,v1,v2]:=by cases args; simp_all
 obtain ⟨rfl,rfl⟩:=trodVars_none hV
 obtain ⟨xs0,rfl,hc0⟩:=Go.Sx.okWide_agg (t:=26) (by kernel_rfl) (hval 0 26 v0 rfl rfl)
 have k0:=h0
 have lt0:∀ x ∈ p0,x.block<W.heap.size:=by obtain ⟨m,hm⟩:=k0; exact DataW.trod_lt m _ _ _ hm
 have fl0_0:=Go.Sx.open_flat (n:=8) (ks:=[.int .u64,.int .u64,.int .u64,.int .u64,.int .u64,.int .u64,.int .u64,.int .u64,.bool]) (by kernel_rfl) h0
 obtain ⟨ax0,_,e0,w0_0,fl0_1⟩:=fl0_0.int
 obtain ⟨ax1,_,rfl,w0_1,fl0_2⟩:=fl0_1.int
 obtain ⟨ax2,_,rfl,w0_2,fl0_3⟩:=fl0_2.int
 obtain ⟨ax3,_,rfl,w0_3,fl0_4⟩:=fl0_3.int
 obtain ⟨ay0,_,rfl,w0_4,fl0_5⟩:=fl0_4.int
 obtain ⟨ay1,_,rfl,w0_5,fl0_6⟩:=fl0_5.int
 obtain ⟨ay2,_,rfl,w0_6,fl0_7⟩:=fl0_6.int
 obtain ⟨ay3,_,rfl,w0_7,fl0_8⟩:=fl0_7.int
 obtain ⟨ai,_,rfl,fl0_9⟩:=fl0_8.bool
 obtain rfl:=fl0_9.nil
 obtain rfl:xs0=#[.int .u64 ax0,.int .u64 ax1,.int .u64 ax2,.int .u64 ax3,.int .u64 ay0,.int .u64 ay1,.int .u64 ay2,.int .u64 ay3,.bool ai]:=Array.toList_inj.1 (by simpa using e0)
 obtain ⟨a1,rfl,rfl,rfl,y1⟩:=open_string Tryz.underlying9 (hval 1 9 v1 rfl rfl) h1
 have w1:a1.size<=140737488351232:=by
  have z:=sized_string hsz (j:=1) (t:=9) rfl rfl
  rw [Array.length_toList] at z
  exact z
 obtain ⟨xs2,rfl,hc2⟩:=Go.Sx.okWide_agg (t:=34) (by kernel_rfl) (hval 2 34 v2 rfl rfl)
 have k2:=h2
 have lt2:∀ x ∈ p2,x.block<W.heap.size:=by obtain ⟨m,hm⟩:=k2; exact DataW.trod_lt m _ _ _ hm
 have fl2_0:=Go.Sx.open_flat (n:=8) (ks:=[.int .u64,.int .u64,.int .u64,.int .u64,.int .u64,.int .u64,.int .u64,.int .u64]) (by kernel_rfl) h2
 obtain ⟨gr0,_,e2,w2_0,fl2_1⟩:=fl2_0.int
 obtain ⟨gr1,_,rfl,w2_1,fl2_2⟩:=fl2_1.int
 obtain ⟨gr2,_,rfl,w2_2,fl2_3⟩:=fl2_2.int
 obtain ⟨gr3,_,rfl,w2_3,fl2_4⟩:=fl2_3.int
 obtain ⟨gs0,_,rfl,w2_4,fl2_5⟩:=fl2_4.int
 obtain ⟨gs1,_,rfl,w2_5,fl2_6⟩:=fl2_5.int
 obtain ⟨gs2,_,rfl,w2_6,fl2_7⟩:=fl2_6.int
 obtain ⟨gs3,_,rfl,w2_7,fl2_8⟩:=fl2_7.int
 obtain rfl:=fl2_8.nil
 obtain rfl:xs2=#[.int .u64 gr0,.int .u64 gr1,.int .u64 gr2,.int .u64 gr3,.int .u64 gs0,.int .u64 gs1,.int .u64 gs2,.int .u64 gs3]:=Array.toList_inj.1 (by simpa using e2)
 clear hA0 hval0 hsz0 hsz
 refine (Go.Proofs.YtaaobpalpcdlbaaGreat.Bits.walkEcdsaChecks ax0 ax1 ax2 ax3 ay0 ay1 ay2 ay3 ai a1 gr0 gr1 gr2 gr3 gs0 gs1 gs2 gs3 W w0_0 w0_1 w0_2 w0_3 w0_4 w0_5 w0_6 w0_7 w1 w2_0 w2_1 w2_2 w2_3 w2_4 w2_5 w2_6 w2_7).mono fun e W' ⟨he,bel⟩=>?_
 subst he
 exact ⟨_,rfl,_,_,_,[],_,[],hW',trodAll_mk1 (shut_bool Tryz.underlying4 _),(trodAll_cons_mk (Below.trod laidOut (by kernel_rfl) (of_decide_eq_true (by kernel_rfl)) k0 bel lt0) (trodAll_cons_mk (shut_string Tryz.underlying9 y1) (trodAll_cons_mk (Below.trod laidOut (by kernel_rfl) (of_decide_eq_true (by kernel_rfl)) k2 bel lt2) trodAll_mk0))),rfl,bel.frame _,fun h=>by cases h⟩
theorem over:Rows.ecdsaChecksRow.holds Tryz.pinned (OpenSpec.ofChange Rows.ecdsaChecksSpec) :=
 OpenClaim.holds_of_wide 4 Tryz.f4 rfl rfl rfl rfl rfl rfl rfl ⟨rfl,rfl,rfl,rfl,rfl⟩ rfl rfl rfl rfl rfl (by kernel_rfl) Tryz.func4 (by kernel_rfl)
  (of_decide_eq_true (by kernel_rfl)) (by unfold Func.isWrapper; first | (rw [if_pos (by decide +kernel)]; kernel_rfl) | (rw [if_neg (by decide +kernel)]; exact ⟨rfl,rfl⟩))
  (fun os started H enc _=>lifted os started H enc)
theorem proved:Rows.EcdsaChecksSaid:=over
#print axioms proved
end Go.Proofs.YtaaobpalpcdlbaaGreat.ecdsaChecks
namespace Go.Proofs.YtaaobpalpcdlbaaGreat
theorem ecdsaChecks_holds:Rows.EcdsaChecksSaid:=ecdsaChecks.proved
end Go.Proofs.YtaaobpalpcdlbaaGreat
