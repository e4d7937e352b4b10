import Derived.Test.YtaaobpalpcdlbaaGreatSxR
import Derived.Test.YtaaobpalpcdlbaaGreatProg
import Derived.Test.YtaaobpalpcdlbaaGreatPt9
import Derived.KernelRfl
namespace Go.Proofs.YtaaobpalpcdlbaaGreat.Bits
open Go Go.Sx Go.RowKit Go.EC
set_option linter.unusedVariables false
set_option maxRecDepth 100000
def pt10Spec:List (FuncId×CSpec):=[(34,solidOfSpec),(36,planeSpec),(39,pInfSpec),(38,bothfSpec),(26,rMul4Spec),(25,rAdd4Spec),(27,rSub4Spec),(23,rCmpSpec)]
theorem pt10_ok:SpecsOk Tryz.prog pt10Spec:=⟨solidOf_ok,plane_ok,pInf_ok,bothf_ok,rMul4_ok,rAdd4_ok,rSub4_ok,rCmp_ok,trivial⟩
def mulF (k:Int) (A:Sol):Sol:=botF k 0 A (0,1,0)
theorem cmp_nneg (x y:Int):decide (cmpF x y>=0)=!decide (x<y):=by
 unfold cmpF
 by_cases c:x<y
 ·simp [c]
 ·by_cases d:x=y
  ·simp [d]
  ·simp [c,d]
theorem inB_mul {k:Int} {A:Sol} (h:inB A):inB (mulF k A):=inB_bs h inB_none (inB_pl h inB_none) _
theorem v0_0:val4 (limb 0 0) (limb 0 1) (limb 0 2) (limb 0 3)=0:=by decide +kernel
theorem v1_0:val4 (limb 1 0) (limb 1 1) (limb 1 2) (limb 1 3)=1:=by decide +kernel
theorem fold_mul (k:Int) (A:Sol):botF k 0 A (0,1,0)=mulF k A:=rfl
def pMulSpec:CSpec
 | [.agg [.int .u64 k0,.int .u64 k1,.int .u64 k2,.int .u64 k3],.agg [.int .u64 ax0,.int .u64 ax1,.int .u64 ax2,.int .u64 ax3,.int .u64 ay0,.int .u64 ay1,.int .u64 ay2,.int .u64 ay3,.bool ai]],k=>((U64 k0.val)/\(U64 k1.val)/\(U64 k2.val)/\(U64 k3.val)/\(U64 ax0.val)/\(U64 ax1.val)/\(U64 ax2.val)/\(U64 ax3.val)/\(U64 ay0.val)/\(U64 ay1.val)/\(U64 ay2.val)/\(U64 ay3.val))/\(∀ r0:Int,r0=(pnX (mulF (val4 k0.val k1.val k2.val k3.val) (soF ai.val (val4 ax0.val ax1.val ax2.val ax3.val) (val4 ay0.val ay1.val ay2.val ay3.val))))->∀ r1:Int,r1=(pnY (mulF (val4 k0.val k1.val k2.val k3.val) (soF ai.val (val4 ax0.val ax1.val ax2.val ax3.val) (val4 ay0.val ay1.val ay2.val ay3.val))))->∀ r2:Bool,r2=(pnB (mulF (val4 k0.val k1.val k2.val k3.val) (soF ai.val (val4 ax0.val ax1.val ax2.val ax3.val) (val4 ay0.val ay1.val ay2.val ay3.val))))->k (.agg [.int .u64 (.sym (limb r0 0)),.int .u64 (.sym (limb r0 1)),.int .u64 (.sym (limb r0 2)),.int .u64 (.sym (limb r0 3)),.int .u64 (.sym (limb r1 0)),.int .u64 (.sym (limb r1 1)),.int .u64 (.sym (limb r1 2)),.int .u64 (.sym (limb r1 3)),.bool (.sym r2)]))
 | _,_=>False
def VCPMul (k0:Int) (k1:Int) (k2:Int) (k3:Int) (ax0:Int) (ax1:Int) (ax2:Int) (ax3:Int) (ay0:Int) (ay1:Int) (ay2:Int) (ay3:Int) (ai:Bool):Prop :=
 (U64 ax0/\U64 ax1/\U64 ax2/\U64 ax3/\U64 ay0/\U64 ay1/\U64 ay2/\U64 ay3)/\∀ v1,v1=(soF ai (val4 ax0 ax1 ax2 ax3) (val4 ay0 ay1 ay2 ay3)).fst->∀ v2,v2=(soF ai (val4 ax0 ax1 ax2 ax3) (val4 ay0 ay1 ay2 ay3)).snd.fst->∀ v3,v3=(soF ai (val4 ax0 ax1 ax2 ax3) (val4 ay0 ay1 ay2 ay3)).snd.snd->True/\∀ (v4:Int),v4=(0:Int)->∀ (v5:Int),v5=(0:Int)->∀ (v6:Int),v6=(0:Int)->∀ (v7:Int),v7=(0:Int)->∀ (v8:Int),v8=(0:Int)->∀ (v9:Int),v9=(0:Int)->∀ (v10:Int),v10=(0:Int)->∀ (v11:Int),v11=(0:Int)->(U64 v4/\U64 v5/\U64 v6/\U64 v7/\U64 v8/\U64 v9/\U64 v10/\U64 v11)/\∀ v12,v12=(soF true (val4 v4 v5 v6 v7) (val4 v8 v9 v10 v11)).fst->∀ v13,v13=(soF true (val4 v4 v5 v6 v7) (val4 v8 v9 v10 v11)).snd.fst->∀ v14,v14=(soF true (val4 v4 v5 v6 v7) (val4 v8 v9 v10 v11)).snd.snd->(U64 k0/\U64 k1/\U64 k2/\U64 k3/\U64 (limb v1 0)/\U64 (limb v1 1)/\U64 (limb v1 2)/\U64 (limb v1 3)/\U64 (limb v2 0)/\U64 (limb v2 1)/\U64 (limb v2 2)/\U64 (limb v2 3)/\U64 (limb v3 0)/\U64 (limb v3 1)/\U64 (limb v3 2)/\U64 (limb v3 3)/\U64 0/\U64 0/\U64 0/\U64 0/\U64 (limb v12 0)/\U64 (limb v12 1)/\U64 (limb v12 2)/\U64 (limb v12 3)/\U64 (limb v13 0)/\U64 (limb v13 1)/\U64 (limb v13 2)/\U64 (limb v13 3)/\U64 (limb v14 0)/\U64 (limb v14 1)/\U64 (limb v14 2)/\U64 (limb v14 3)/\false=false/\false=false)/\∀ v15,v15=(botF (val4 k0 k1 k2 k3) (0:Int) (val4 (limb v1 0) (limb v1 1) (limb v1 2) (limb v1 3),val4 (limb v2 0) (limb v2 1) (limb v2 2) (limb v2 3),val4 (limb v3 0) (limb v3 1) (limb v3 2) (limb v3 3)) (val4 (limb v12 0) (limb v12 1) (limb v12 2) (limb v12 3),val4 (limb v13 0) (limb v13 1) (limb v13 2) (limb v13 3),val4 (limb v14 0) (limb v14 1) (limb v14 2) (limb v14 3))).fst->∀ v16,v16=(botF (val4 k0 k1 k2 k3) (0:Int) (val4 (limb v1 0) (limb v1 1) (limb v1 2) (limb v1 3),val4 (limb v2 0) (limb v2 1) (limb v2 2) (limb v2 3),val4 (limb v3 0) (limb v3 1) (limb v3 2) (limb v3 3)) (val4 (limb v12 0) (limb v12 1) (limb v12 2) (limb v12 3),val4 (limb v13 0) (limb v13 1) (limb v13 2) (limb v13 3),val4 (limb v14 0) (limb v14 1) (limb v14 2) (limb v14 3))).snd.fst->∀ v17,v17=(botF (val4 k0 k1 k2 k3) (0:Int) (val4 (limb v1 0) (limb v1 1) (limb v1 2) (limb v1 3),val4 (limb v2 0) (limb v2 1) (limb v2 2) (limb v2 3),val4 (limb v3 0) (limb v3 1) (limb v3 2) (limb v3 3)) (val4 (limb v12 0) (limb v12 1) (limb v12 2) (limb v12 3),val4 (limb v13 0) (limb v13 1) (limb v13 2) (limb v13 3),val4 (limb v14 0) (limb v14 1) (limb v14 2) (limb v14 3))).snd.snd->(U64 (limb v15 0)/\U64 (limb v15 1)/\U64 (limb v15 2)/\U64 (limb v15 3)/\U64 (limb v16 0)/\U64 (limb v16 1)/\U64 (limb v16 2)/\U64 (limb v16 3)/\U64 (limb v17 0)/\U64 (limb v17 1)/\U64 (limb v17 2)/\U64 (limb v17 3)/\false=false)/\∀ v18,v18=pnX (val4 (limb v15 0) (limb v15 1) (limb v15 2) (limb v15 3),val4 (limb v16 0) (limb v16 1) (limb v16 2) (limb v16 3),val4 (limb v17 0) (limb v17 1) (limb v17 2) (limb v17 3))->∀ v19,v19=pnY (val4 (limb v15 0) (limb v15 1) (limb v15 2) (limb v15 3),val4 (limb v16 0) (limb v16 1) (limb v16 2) (limb v16 3),val4 (limb v17 0) (limb v17 1) (limb v17 2) (limb v17 3))->∀ v20,v20=pnB (val4 (limb v15 0) (limb v15 1) (limb v15 2) (limb v15 3),val4 (limb v16 0) (limb v16 1) (limb v16 2) (limb v16 3),val4 (limb v17 0) (limb v17 1) (limb v17 2) (limb v17 3))->(IntKind.u64=IntKind.u64/\limb v18 0=limb (pnX (mulF (val4 k0 k1 k2 k3) (soF ai (val4 ax0 ax1 ax2 ax3) (val4 ay0 ay1 ay2 ay3)))) 0)/\(IntKind.u64=IntKind.u64/\limb v18 1=limb (pnX (mulF (val4 k0 k1 k2 k3) (soF ai (val4 ax0 ax1 ax2 ax3) (val4 ay0 ay1 ay2 ay3)))) 1)/\(IntKind.u64=IntKind.u64/\limb v18 2=limb (pnX (mulF (val4 k0 k1 k2 k3) (soF ai (val4 ax0 ax1 ax2 ax3) (val4 ay0 ay1 ay2 ay3)))) 2)/\(IntKind.u64=IntKind.u64/\limb v18 3=limb (pnX (mulF (val4 k0 k1 k2 k3) (soF ai (val4 ax0 ax1 ax2 ax3) (val4 ay0 ay1 ay2 ay3)))) 3)/\(IntKind.u64=IntKind.u64/\limb v19 0=limb (pnY (mulF (val4 k0 k1 k2 k3) (soF ai (val4 ax0 ax1 ax2 ax3) (val4 ay0 ay1 ay2 ay3)))) 0)/\(IntKind.u64=IntKind.u64/\limb v19 1=limb (pnY (mulF (val4 k0 k1 k2 k3) (soF ai (val4 ax0 ax1 ax2 ax3) (val4 ay0 ay1 ay2 ay3)))) 1)/\(IntKind.u64=IntKind.u64/\limb v19 2=limb (pnY (mulF (val4 k0 k1 k2 k3) (soF ai (val4 ax0 ax1 ax2 ax3) (val4 ay0 ay1 ay2 ay3)))) 2)/\(IntKind.u64=IntKind.u64/\limb v19 3=limb (pnY (mulF (val4 k0 k1 k2 k3) (soF ai (val4 ax0 ax1 ax2 ax3) (val4 ay0 ay1 ay2 ay3)))) 3)/\v20=pnB (mulF (val4 k0 k1 k2 k3) (soF ai (val4 ax0 ax1 ax2 ax3) (val4 ay0 ay1 ay2 ay3)))/\True
theorem tiePMul (w0:World) (k0:Int) (k1:Int) (k2:Int) (k3:Int) (ax0:Int) (ax1:Int) (ax2:Int) (ax3:Int) (ay0:Int) (ay1:Int) (ay2:Int) (ay3:Int) (ai:Bool):VCPMul k0 k1 k2 k3 ax0 ax1 ax2 ax3 ay0 ay1 ay2 ay3 ai=((recN (GC Tryz.prog pt10Spec w0) 40).call 10 [.agg [.int .u64 (.sym k0),.int .u64 (.sym k1),.int .u64 (.sym k2),.int .u64 (.sym k3)],.agg [.int .u64 (.sym ax0),.int .u64 (.sym ax1),.int .u64 (.sym ax2),.int .u64 (.sym ax3),.int .u64 (.sym ay0),.int .u64 (.sym ay1),.int .u64 (.sym ay2),.int .u64 (.sym ay3),.bool (.sym ai)]] [] (fun r__ _=>eqV r__ (.agg [.int .u64 (.sym (limb (pnX (mulF (val4 k0 k1 k2 k3) (soF ai (val4 ax0 ax1 ax2 ax3) (val4 ay0 ay1 ay2 ay3)))) 0)),.int .u64 (.sym (limb (pnX (mulF (val4 k0 k1 k2 k3) (soF ai (val4 ax0 ax1 ax2 ax3) (val4 ay0 ay1 ay2 ay3)))) 1)),.int .u64 (.sym (limb (pnX (mulF (val4 k0 k1 k2 k3) (soF ai (val4 ax0 ax1 ax2 ax3) (val4 ay0 ay1 ay2 ay3)))) 2)),.int .u64 (.sym (limb (pnX (mulF (val4 k0 k1 k2 k3) (soF ai (val4 ax0 ax1 ax2 ax3) (val4 ay0 ay1 ay2 ay3)))) 3)),.int .u64 (.sym (limb (pnY (mulF (val4 k0 k1 k2 k3) (soF ai (val4 ax0 ax1 ax2 ax3) (val4 ay0 ay1 ay2 ay3)))) 0)),.int .u64 (.sym (limb (pnY (mulF (val4 k0 k1 k2 k3) (soF ai (val4 ax0 ax1 ax2 ax3) (val4 ay0 ay1 ay2 ay3)))) 1)),.int .u64 (.sym (limb (pnY (mulF (val4 k0 k1 k2 k3) (soF ai (val4 ax0 ax1 ax2 ax3) (val4 ay0 ay1 ay2 ay3)))) 2)),.int .u64 (.sym (limb (pnY (mulF (val4 k0 k1 k2 k3) (soF ai (val4 ax0 ax1 ax2 ax3) (val4 ay0 ay1 ay2 ay3)))) 3)),.bool (.sym (pnB (mulF (val4 k0 k1 k2 k3) (soF ai (val4 ax0 ax1 ax2 ax3) (val4 ay0 ay1 ay2 ay3)))))]))):=by kernel_rfl
theorem purePMul (k0 k1 k2 k3:Int) (ax0 ax1 ax2 ax3 ay0 ay1 ay2 ay3:Int) (ai:Bool) (h:U64 k0/\U64 k1/\U64 k2/\U64 k3/\U64 ax0/\U64 ax1/\U64 ax2/\U64 ax3/\U64 ay0/\U64 ay1/\U64 ay2/\U64 ay3):VCPMul k0 k1 k2 k3 ax0 ax1 ax2 ax3 ay0 ay1 ay2 ay3 ai:=by
 obtain ⟨hk0,hk1,hk2,hk3,hax0,hax1,hax2,hax3,hay0,hay1,hay2,hay3⟩:=h
 have eax0:U64 ax0=True:=eq_true hax0
 have eax1:U64 ax1=True:=eq_true hax1
 have eax2:U64 ax2=True:=eq_true hax2
 have eax3:U64 ax3=True:=eq_true hax3
 have eay0:U64 ay0=True:=eq_true hay0
 have eay1:U64 ay1=True:=eq_true hay1
 have eay2:U64 ay2=True:=eq_true hay2
 have eay3:U64 ay3=True:=eq_true hay3
 have ek0:U64 k0=True:=eq_true hk0
 have ek1:U64 k1=True:=eq_true hk1
 have ek2:U64 k2=True:=eq_true hk2
 have ek3:U64 k3=True:=eq_true hk3
 have z0:U64 0=True:=eq_true U64_0
 have na:inB (soF ai (val4 ax0 ax1 ax2 ax3) (val4 ay0 ay1 ay2 ay3)):=inB_so (val4_lt hax0 hax1 hax2 hax3) (val4_lt hay0 hay1 hay2 hay3)
 have nm:=inB_mul (k:=val4 k0 k1 k2 k3) na
 unfold VCPMul
 simp only [forall_eq,ulP,eax0,eax1,eax2,eax3,eay0,eay1,eay2,eay3,ek0,ek1,ek2,ek3,z0,so_true,lBd na.1,lBd na.2.1,lBd na.2.2,v0_0,v1_0,eta3,fold_mul,lBd nm.1,lBd nm.2.1,lBd nm.2.2,and_self]
theorem pMul_ok:SpecOk Tryz.prog 10 pMulSpec:=by
 intro args k h
 unfold pMulSpec at h
 split at h
 ·rename_i k0 k1 k2 k3 ax0 ax1 ax2 ax3 ay0 ay1 ay2 ay3 ai
  obtain ⟨hr,h⟩:=h
  exact ⟨_,h _ rfl _ rfl _ rfl,PureOk.of_tie (GC Tryz.prog pt10Spec) (fun w__=>gok w__ namesOk_ mixed_ pt10_ok) (fun _=>rfl) (fun _=>rfl) (args':=[.agg [.int .u64 (.sym k0.val),.int .u64 (.sym k1.val),.int .u64 (.sym k2.val),.int .u64 (.sym k3.val)],.agg [.int .u64 (.sym ax0.val),.int .u64 (.sym ax1.val),.int .u64 (.sym ax2.val),.int .u64 (.sym ax3.val),.int .u64 (.sym ay0.val),.int .u64 (.sym ay1.val),.int .u64 (.sym ay2.val),.int .u64 (.sym ay3.val),.bool (.sym ai.val)]]) ⟨⟨⟨rfl,rfl⟩,⟨rfl,rfl⟩,⟨rfl,rfl⟩,⟨rfl,rfl⟩,trivial⟩,⟨⟨rfl,rfl⟩,⟨rfl,rfl⟩,⟨rfl,rfl⟩,⟨rfl,rfl⟩,⟨rfl,rfl⟩,⟨rfl,rfl⟩,⟨rfl,rfl⟩,⟨rfl,rfl⟩,rfl,trivial⟩,trivial⟩ 40 (fun w__=>VCPMul k0.val k1.val k2.val k3.val ax0.val ax1.val ax2.val ax3.val ay0.val ay1.val ay2.val ay3.val ai.val) (fun w__=>tiePMul w__ k0.val k1.val k2.val k3.val ax0.val ax1.val ax2.val ax3.val ay0.val ay1.val ay2.val ay3.val ai.val) (fun w__=>purePMul k0.val k1.val k2.val k3.val ax0.val ax1.val ax2.val ax3.val ay0.val ay1.val ay2.val ay3.val ai.val hr)⟩
 ·exact h.elim

def rOnSpec:CSpec
 | [.agg [.int .u64 ax0,.int .u64 ax1,.int .u64 ax2,.int .u64 ax3,.int .u64 ay0,.int .u64 ay1,.int .u64 ay2,.int .u64 ay3,.bool ai]],k=>((U64 ax0.val)/\(U64 ax1.val)/\(U64 ax2.val)/\(U64 ax3.val)/\(U64 ay0.val)/\(U64 ay1.val)/\(U64 ay2.val)/\(U64 ay3.val))/\(∀ r0:Bool,r0=(onP (val4 ax0.val ax1.val ax2.val ax3.val) (val4 ay0.val ay1.val ay2.val ay3.val) ai.val)->k (.bool (.sym r0)))
 | _,_=>False
def VCROn (ax0:Int) (ax1:Int) (ax2:Int) (ax3:Int) (ay0:Int) (ay1:Int) (ay2:Int) (ay3:Int) (ai:Bool):Prop :=
 (ai=true->∀ v1,v1=(ax0==(0:Int)&&(ax1==(0:Int)&&(ax2==(0:Int)&&(ax3==(0:Int)&&true))))->(v1=true->∀ v2,v2=(ay0==(0:Int)&&(ay1==(0:Int)&&(ay2==(0:Int)&&(ay3==(0:Int)&&true))))->v2=onP (val4 ax0 ax1 ax2 ax3) (val4 ay0 ay1 ay2 ay3) ai)/\(v1=false->false=onP (val4 ax0 ax1 ax2 ax3) (val4 ay0 ay1 ay2 ay3) ai))/\(ai=false->(U64 ax0/\U64 ax1/\U64 ax2/\U64 ax3/\U64 18446744073709551615/\U64 4294967295/\U64 0/\U64 18446744069414584321)/\∀ v3,v3=cmpF (val4 ax0 ax1 ax2 ax3) (115792089210356248762697446949407573530086143415290314195533631308867097853951:Int)->∀ v4,v4=decide (v3>=(0:Int))->(v4=false->(U64 ay0/\U64 ay1/\U64 ay2/\U64 ay3/\U64 18446744073709551615/\U64 4294967295/\U64 0/\U64 18446744069414584321)/\∀ v5,v5=cmpF (val4 ay0 ay1 ay2 ay3) (115792089210356248762697446949407573530086143415290314195533631308867097853951:Int)->∀ v6,v6=decide (v5>=(0:Int))->(v6=true->false=onP (val4 ax0 ax1 ax2 ax3) (val4 ay0 ay1 ay2 ay3) ai)/\(v6=false->(U64 ax0/\U64 ax1/\U64 ax2/\U64 ax3/\U64 ax0/\U64 ax1/\U64 ax2/\U64 ax3)/\∀ v7,v7=tI (val4 ax0 ax1 ax2 ax3) (val4 ax0 ax1 ax2 ax3)->(U64 (limb v7 0)/\U64 (limb v7 1)/\U64 (limb v7 2)/\U64 (limb v7 3)/\U64 3/\U64 0/\U64 0/\U64 0)/\∀ v8,v8=sI (val4 (limb v7 0) (limb v7 1) (limb v7 2) (limb v7 3)) (3:Int)->(U64 ax0/\U64 ax1/\U64 ax2/\U64 ax3/\U64 (limb v8 0)/\U64 (limb v8 1)/\U64 (limb v8 2)/\U64 (limb v8 3))/\∀ v9,v9=tI (val4 ax0 ax1 ax2 ax3) (val4 (limb v8 0) (limb v8 1) (limb v8 2) (limb v8 3))->(U64 (limb v9 0)/\U64 (limb v9 1)/\U64 (limb v9 2)/\U64 (limb v9 3)/\U64 4309448131093880907/\U64 7285987128567378166/\U64 12964664127075681980/\U64 6540974713487397863)/\∀ v10,v10=aI (val4 (limb v9 0) (limb v9 1) (limb v9 2) (limb v9 3)) (41058363725152142129326129780047268409114441015993725554835256314039467401291:Int)->(U64 ay0/\U64 ay1/\U64 ay2/\U64 ay3/\U64 ay0/\U64 ay1/\U64 ay2/\U64 ay3)/\∀ v11,v11=tI (val4 ay0 ay1 ay2 ay3) (val4 ay0 ay1 ay2 ay3)->∀ v12,v12=(limb v11 0==limb v10 0&&(limb v11 1==limb v10 1&&(limb v11 2==limb v10 2&&(limb v11 3==limb v10 3&&true))))->v12=onP (val4 ax0 ax1 ax2 ax3) (val4 ay0 ay1 ay2 ay3) ai))/\(v4=true->false=onP (val4 ax0 ax1 ax2 ax3) (val4 ay0 ay1 ay2 ay3) ai))
theorem tieROn (w0:World) (ax0:Int) (ax1:Int) (ax2:Int) (ax3:Int) (ay0:Int) (ay1:Int) (ay2:Int) (ay3:Int) (ai:Bool):VCROn ax0 ax1 ax2 ax3 ay0 ay1 ay2 ay3 ai=((recN (GC Tryz.prog pt10Spec w0) 40).call 6 [.agg [.int .u64 (.sym ax0),.int .u64 (.sym ax1),.int .u64 (.sym ax2),.int .u64 (.sym ax3),.int .u64 (.sym ay0),.int .u64 (.sym ay1),.int .u64 (.sym ay2),.int .u64 (.sym ay3),.bool (.sym ai)]] [] (fun r__ _=>eqV r__ (.bool (.sym (onP (val4 ax0 ax1 ax2 ax3) (val4 ay0 ay1 ay2 ay3) ai))))):=by kernel_rfl
theorem pureROn (ax0 ax1 ax2 ax3 ay0 ay1 ay2 ay3:Int) (ai:Bool) (h:U64 ax0/\U64 ax1/\U64 ax2/\U64 ax3/\U64 ay0/\U64 ay1/\U64 ay2/\U64 ay3):VCROn ax0 ax1 ax2 ax3 ay0 ay1 ay2 ay3 ai:=by
 obtain ⟨hax0,hax1,hax2,hax3,hay0,hay1,hay2,hay3⟩:=h
 have eax0:U64 ax0=True:=eq_true hax0
 have eax1:U64 ax1=True:=eq_true hax1
 have eax2:U64 ax2=True:=eq_true hax2
 have eax3:U64 ax3=True:=eq_true hax3
 have eay0:U64 ay0=True:=eq_true hay0
 have eay1:U64 ay1=True:=eq_true hay1
 have eay2:U64 ay2=True:=eq_true hay2
 have eay3:U64 ay3=True:=eq_true hay3
 have z0:U64 0=True:=eq_true U64_0
 have z3:U64 3=True:=eq_true (by decide)
 have p0:U64 18446744073709551615=True:=eq_true (by decide)
 have p1:U64 4294967295=True:=eq_true (by decide)
 have p3:U64 18446744069414584321=True:=eq_true (by decide)
 have b0:U64 4309448131093880907=True:=eq_true (by decide)
 have b1:U64 7285987128567378166=True:=eq_true (by decide)
 have b2:U64 12964664127075681980=True:=eq_true (by decide)
 have b3:U64 6540974713487397863=True:=eq_true (by decide)
 have q0:val4 0 0 0 0=0:=rfl
 refine ⟨fun e v1 h1=>?_,fun e=>?_⟩
 ·subst e
  rw [eq4 hax0 hax1 hax2 hax3 U64_0 U64_0 U64_0 U64_0] at h1
  rw [onP_inf]
  refine brX (fun c v2 h2=>?_) (fun c=>?_) v1 h1
  ·rw [h2,eq4 hay0 hay1 hay2 hay3 U64_0 U64_0 U64_0 U64_0]
   rw [q0] at c ⊢
   rw [decide_eq_true c]; rfl
  ·rw [q0] at c
   rw [decide_eq_false c]; rfl
 ·subst e
  simp only [forall_eq,ulP,ltI,laI,lsI,eax0,eax1,eax2,eax3,eay0,eay1,eay2,eay3,z0,z3,p0,p1,p3,b0,b1,b2,b3,true_and,cmp_nneg,dta,onP_fin]
  generalize val4 ax0 ax1 ax2 ax3=X
  generalize val4 ay0 ay1 ay2 ay3=Y
  refine ⟨fun c1=>⟨fun c2=>?_,fun c2=>?_⟩,fun c1=>?_⟩
  ·have c1:decide (X<P2)=true:=by simpa using c1
   have c2:decide (Y<P2)=false:=by simpa using c2
   rw [c1,c2]; rfl
  ·have c1:decide (X<P2)=true:=by simpa using c1
   have c2:decide (Y<P2)=true:=by simpa using c2
   rw [c1,c2]; rfl
  ·have c1:decide (X<P2)=false:=by simpa using c1
   rw [c1]; rfl
theorem rOn_ok:SpecOk Tryz.prog 6 rOnSpec:=by
 intro args k h
 unfold rOnSpec at h
 split at h
 ·rename_i ax0 ax1 ax2 ax3 ay0 ay1 ay2 ay3 ai
  obtain ⟨hr,h⟩:=h
  exact ⟨_,h _ rfl,PureOk.of_tie (GC Tryz.prog pt10Spec) (fun w__=>gok w__ namesOk_ mixed_ pt10_ok) (fun _=>rfl) (fun _=>rfl) (args':=[.agg [.int .u64 (.sym ax0.val),.int .u64 (.sym ax1.val),.int .u64 (.sym ax2.val),.int .u64 (.sym ax3.val),.int .u64 (.sym ay0.val),.int .u64 (.sym ay1.val),.int .u64 (.sym ay2.val),.int .u64 (.sym ay3.val),.bool (.sym ai.val)]]) ⟨⟨⟨rfl,rfl⟩,⟨rfl,rfl⟩,⟨rfl,rfl⟩,⟨rfl,rfl⟩,⟨rfl,rfl⟩,⟨rfl,rfl⟩,⟨rfl,rfl⟩,⟨rfl,rfl⟩,rfl,trivial⟩,trivial⟩ 40 (fun w__=>VCROn ax0.val ax1.val ax2.val ax3.val ay0.val ay1.val ay2.val ay3.val ai.val) (fun w__=>tieROn w__ ax0.val ax1.val ax2.val ax3.val ay0.val ay1.val ay2.val ay3.val ai.val) (fun w__=>pureROn ax0.val ax1.val ax2.val ax3.val ay0.val ay1.val ay2.val ay3.val ai.val hr)⟩
 ·exact h.elim

end Go.Proofs.YtaaobpalpcdlbaaGreat.Bits
