import Derived.Test.YtaaobpalpcdlbaaGreatSxR
import Derived.Test.YtaaobpalpcdlbaaGreatProg
import Derived.Test.YtaaobpalpcdlbaaGreatPt15
import Derived.Test.YtaaobpalpcdlbaaGreatByt
import Derived.KernelRfl
namespace Go.Proofs.YtaaobpalpcdlbaaGreat.Bits
open Go Go.Sx Go.RowKit Go.EC
set_option linter.unusedVariables false
set_option maxRecDepth 100000
abbrev N2:Int:=115792089210356248762697446949407573529996955224135760342422259061068512044369
def secF (d:Int):Bool:=!decide (d=0)&&decide (d<N2)
def nI (a b:Int):Int:=a*b%N2
def ed1Spec:List (FuncId×CSpec):=[(63,cmpSpec),(23,rCmpSpec),(86,mMulSpec),(29,pBaseSpec),(34,solidOfSpec),(36,planeSpec),(38,bothfSpec)]
theorem ed1_ok:SpecsOk Tryz.prog ed1Spec:=⟨cmp_ok,rCmp_ok,mMul_ok,pBase_ok,solidOf_ok,plane_ok,bothf_ok,trivial⟩
def QF (k:Int):Pt p256:=C256.mul k.toNat G256
def BF (j k:Int) (A:Pt p256):Pt p256:=C256.add (C256.mul j.toNat G256) (C256.mul k.toNat A)
theorem cmp_lt (x y:Int):decide (cmpF x y<0)=decide (x<y):=by
 unfold cmpF
 by_cases c:x<y
 ·simp [c]
 ·by_cases d:x=y
  ·simp [d]
  ·simp [c,d]
theorem n2w:U64 17562291160714782033/\U64 13611842547513532036/\U64 18446744073709551615/\U64 18446744069414584320:=by decide
theorem modN2 (x:Int):modF x 115792089210356248762697446949407573529996955224135760342422259061068512044369=x%N2:=by unfold modF; rw [if_neg (by decide)]
def eSecretSpec:CSpec
 | [.agg [.int .u64 d0,.int .u64 d1,.int .u64 d2,.int .u64 d3]],k=>((U64 d0.val)/\(U64 d1.val)/\(U64 d2.val)/\(U64 d3.val))/\(∀ r0:Bool,r0=(secF (val4 d0.val d1.val d2.val d3.val))->k (.bool (.sym r0)))
 | _,_=>False
def VCESecret (d0:Int) (d1:Int) (d2:Int) (d3:Int):Prop :=
 ∀ (v1:Bool),v1=!(d0==(0:Int)&&(d1==(0:Int)&&(d2==(0:Int)&&(d3==(0:Int)&&true))))->(v1=true->(U64 d0/\U64 d1/\U64 d2/\U64 d3/\U64 17562291160714782033/\U64 13611842547513532036/\U64 18446744073709551615/\U64 18446744069414584320)/\∀ v2,v2=cmpF (val4 d0 d1 d2 d3) (115792089210356248762697446949407573529996955224135760342422259061068512044369:Int)->∀ v3,v3=decide (v2<(0:Int))->v3=secF (val4 d0 d1 d2 d3))/\(v1=false->false=secF (val4 d0 d1 d2 d3))
theorem tieESecret (w0:World) (d0:Int) (d1:Int) (d2:Int) (d3:Int):VCESecret d0 d1 d2 d3=((recN (GC Tryz.prog ed1Spec w0) 40).call 47 [.agg [.int .u64 (.sym d0),.int .u64 (.sym d1),.int .u64 (.sym d2),.int .u64 (.sym d3)]] [] (fun r__ _=>eqV r__ (.bool (.sym (secF (val4 d0 d1 d2 d3)))))):=by kernel_rfl
theorem pureESecret (d0 d1 d2 d3:Int) (h:U64 d0/\U64 d1/\U64 d2/\U64 d3):VCESecret d0 d1 d2 d3:=by
 obtain ⟨h0,h1,h2,h3⟩:=h
 intro v1 e1
 rw [eq4 h0 h1 h2 h3 U64_0 U64_0 U64_0 U64_0] at e1
 have q0:val4 0 0 0 0=0:=rfl
 rw [q0] at e1
 unfold secF
 refine ⟨fun c=>⟨⟨h0,h1,h2,h3,n2w⟩,fun v2 e2 v3 e3=>?_⟩,fun c=>?_⟩
 ·rw [e3,e2,cmp_lt,← e1,c]; rfl
 ·rw [← e1,c]; rfl
theorem eSecret_ok:SpecOk Tryz.prog 47 eSecretSpec:=by
 intro args k h
 unfold eSecretSpec at h
 split at h
 ·rename_i d0 d1 d2 d3
  obtain ⟨hr,h⟩:=h
  exact ⟨_,h _ rfl,PureOk.of_tie (GC Tryz.prog ed1Spec) (fun w__=>gok w__ namesOk_ mixed_ ed1_ok) (fun _=>rfl) (fun _=>rfl) (args':=[.agg [.int .u64 (.sym d0.val),.int .u64 (.sym d1.val),.int .u64 (.sym d2.val),.int .u64 (.sym d3.val)]]) ⟨⟨⟨rfl,rfl⟩,⟨rfl,rfl⟩,⟨rfl,rfl⟩,⟨rfl,rfl⟩,trivial⟩,trivial⟩ 40 (fun w__=>VCESecret d0.val d1.val d2.val d3.val) (fun w__=>tieESecret w__ d0.val d1.val d2.val d3.val) (fun w__=>pureESecret d0.val d1.val d2.val d3.val hr)⟩
 ·exact h.elim

def rSecretSpec:CSpec
 | [.agg [.int .u64 d0,.int .u64 d1,.int .u64 d2,.int .u64 d3]],k=>((U64 d0.val)/\(U64 d1.val)/\(U64 d2.val)/\(U64 d3.val))/\(∀ r0:Bool,r0=(secF (val4 d0.val d1.val d2.val d3.val))->k (.bool (.sym r0)))
 | _,_=>False
def VCRSecret (d0:Int) (d1:Int) (d2:Int) (d3:Int):Prop:=VCESecret d0 d1 d2 d3
theorem tieRSecret (w0:World) (d0:Int) (d1:Int) (d2:Int) (d3:Int):VCRSecret d0 d1 d2 d3=((recN (GC Tryz.prog ed1Spec w0) 40).call 55 [.agg [.int .u64 (.sym d0),.int .u64 (.sym d1),.int .u64 (.sym d2),.int .u64 (.sym d3)]] [] (fun r__ _=>eqV r__ (.bool (.sym (secF (val4 d0 d1 d2 d3)))))):=by kernel_rfl
theorem pureRSecret (d0 d1 d2 d3:Int) (h:U64 d0/\U64 d1/\U64 d2/\U64 d3):VCRSecret d0 d1 d2 d3:=pureESecret d0 d1 d2 d3 h
theorem rSecret_ok:SpecOk Tryz.prog 55 rSecretSpec:=by
 intro args k h
 unfold rSecretSpec at h
 split at h
 ·rename_i d0 d1 d2 d3
  obtain ⟨hr,h⟩:=h
  exact ⟨_,h _ rfl,PureOk.of_tie (GC Tryz.prog ed1Spec) (fun w__=>gok w__ namesOk_ mixed_ ed1_ok) (fun _=>rfl) (fun _=>rfl) (args':=[.agg [.int .u64 (.sym d0.val),.int .u64 (.sym d1.val),.int .u64 (.sym d2.val),.int .u64 (.sym d3.val)]]) ⟨⟨⟨rfl,rfl⟩,⟨rfl,rfl⟩,⟨rfl,rfl⟩,⟨rfl,rfl⟩,trivial⟩,trivial⟩ 40 (fun w__=>VCRSecret d0.val d1.val d2.val d3.val) (fun w__=>tieRSecret w__ d0.val d1.val d2.val d3.val) (fun w__=>pureRSecret d0.val d1.val d2.val d3.val hr)⟩
 ·exact h.elim

def eTimesSpec:CSpec
 | [.agg [.int .u64 a0,.int .u64 a1,.int .u64 a2,.int .u64 a3],.agg [.int .u64 b0,.int .u64 b1,.int .u64 b2,.int .u64 b3]],k=>((U64 a0.val)/\(U64 a1.val)/\(U64 a2.val)/\(U64 a3.val)/\(U64 b0.val)/\(U64 b1.val)/\(U64 b2.val)/\(U64 b3.val))/\(∀ r0:Int,r0=(nI (val4 a0.val a1.val a2.val a3.val) (val4 b0.val b1.val b2.val b3.val))->k (.agg [.int .u64 (.sym (limb r0 0)),.int .u64 (.sym (limb r0 1)),.int .u64 (.sym (limb r0 2)),.int .u64 (.sym (limb r0 3))]))
 | _,_=>False
def VCETimes (a0:Int) (a1:Int) (a2:Int) (a3:Int) (b0:Int) (b1:Int) (b2:Int) (b3:Int):Prop :=
 (U64 a0/\U64 a1/\U64 a2/\U64 a3/\U64 b0/\U64 b1/\U64 b2/\U64 b3/\U64 17562291160714782033/\U64 13611842547513532036/\U64 18446744073709551615/\U64 18446744069414584320)/\∀ v1,v1=modF (val4 a0 a1 a2 a3*val4 b0 b1 b2 b3) (115792089210356248762697446949407573529996955224135760342422259061068512044369:Int)->(IntKind.u64=IntKind.u64/\limb v1 0=limb (nI (val4 a0 a1 a2 a3) (val4 b0 b1 b2 b3)) 0)/\(IntKind.u64=IntKind.u64/\limb v1 1=limb (nI (val4 a0 a1 a2 a3) (val4 b0 b1 b2 b3)) 1)/\(IntKind.u64=IntKind.u64/\limb v1 2=limb (nI (val4 a0 a1 a2 a3) (val4 b0 b1 b2 b3)) 2)/\(IntKind.u64=IntKind.u64/\limb v1 3=limb (nI (val4 a0 a1 a2 a3) (val4 b0 b1 b2 b3)) 3)/\True
theorem tieETimes (w0:World) (a0:Int) (a1:Int) (a2:Int) (a3:Int) (b0:Int) (b1:Int) (b2:Int) (b3:Int):VCETimes a0 a1 a2 a3 b0 b1 b2 b3=((recN (GC Tryz.prog ed1Spec w0) 40).call 52 [.agg [.int .u64 (.sym a0),.int .u64 (.sym a1),.int .u64 (.sym a2),.int .u64 (.sym a3)],.agg [.int .u64 (.sym b0),.int .u64 (.sym b1),.int .u64 (.sym b2),.int .u64 (.sym b3)]] [] (fun r__ _=>eqV r__ (.agg [.int .u64 (.sym (limb (nI (val4 a0 a1 a2 a3) (val4 b0 b1 b2 b3)) 0)),.int .u64 (.sym (limb (nI (val4 a0 a1 a2 a3) (val4 b0 b1 b2 b3)) 1)),.int .u64 (.sym (limb (nI (val4 a0 a1 a2 a3) (val4 b0 b1 b2 b3)) 2)),.int .u64 (.sym (limb (nI (val4 a0 a1 a2 a3) (val4 b0 b1 b2 b3)) 3))]))):=by kernel_rfl
theorem pureETimes (a0 a1 a2 a3 b0 b1 b2 b3:Int) (h:U64 a0/\U64 a1/\U64 a2/\U64 a3/\U64 b0/\U64 b1/\U64 b2/\U64 b3):VCETimes a0 a1 a2 a3 b0 b1 b2 b3:=by
 obtain ⟨ha0,ha1,ha2,ha3,hb0,hb1,hb2,hb3⟩:=h
 exact ⟨⟨ha0,ha1,ha2,ha3,hb0,hb1,hb2,hb3,n2w⟩,fun v1 h1=>limb_eq (by rw [h1,modN2]; rfl)⟩
theorem eTimes_ok:SpecOk Tryz.prog 52 eTimesSpec:=by
 intro args k h
 unfold eTimesSpec at h
 split at h
 ·rename_i a0 a1 a2 a3 b0 b1 b2 b3
  obtain ⟨hr,h⟩:=h
  exact ⟨_,h _ rfl,PureOk.of_tie (GC Tryz.prog ed1Spec) (fun w__=>gok w__ namesOk_ mixed_ ed1_ok) (fun _=>rfl) (fun _=>rfl) (args':=[.agg [.int .u64 (.sym a0.val),.int .u64 (.sym a1.val),.int .u64 (.sym a2.val),.int .u64 (.sym a3.val)],.agg [.int .u64 (.sym b0.val),.int .u64 (.sym b1.val),.int .u64 (.sym b2.val),.int .u64 (.sym b3.val)]]) ⟨⟨⟨rfl,rfl⟩,⟨rfl,rfl⟩,⟨rfl,rfl⟩,⟨rfl,rfl⟩,trivial⟩,⟨⟨rfl,rfl⟩,⟨rfl,rfl⟩,⟨rfl,rfl⟩,⟨rfl,rfl⟩,trivial⟩,trivial⟩ 40 (fun w__=>VCETimes a0.val a1.val a2.val a3.val b0.val b1.val b2.val b3.val) (fun w__=>tieETimes w__ a0.val a1.val a2.val a3.val b0.val b1.val b2.val b3.val) (fun w__=>pureETimes a0.val a1.val a2.val a3.val b0.val b1.val b2.val b3.val hr)⟩
 ·exact h.elim

theorem so_false (X Y:Int):soF false X Y=(X,Y,1):=rfl
theorem botP {j k X Y:Int} {i:Bool} (hj:0<=j/\j<115792089237316195423570985008687907853269984665640564039457584007913129639936) (hk:0<=k/\k<115792089237316195423570985008687907853269984665640564039457584007913129639936) (h:onP X Y i=true) (hx:0<=X) (hy:0<=Y) :
  pnX (botF j k (48439561293906451759052585252797914202762949526041747995844080717082404635286,36134250956749795798585127919587881956611106672985015071877198253568414405109,1) (soF i X Y))=cX (BF j k (pP X Y i))/\pnY (botF j k (48439561293906451759052585252797914202762949526041747995844080717082404635286,36134250956749795798585127919587881956611106672985015071877198253568414405109,1) (soF i X Y))=cY (BF j k (pP X Y i))/\pnB (botF j k (48439561293906451759052585252797914202762949526041747995844080717082404635286,36134250956749795798585127919587881956611106672985015071877198253568414405109,1) (soF i X Y))=cB (BF j k (pP X Y i)) :=
 pn_RI (bot_RI G_RI (so_RI h hx hy) hj hk)
def pBothSpec:CSpec
 | [.agg [.int .u64 j0,.int .u64 j1,.int .u64 j2,.int .u64 j3],.agg [.int .u64 k0,.int .u64 k1,.int .u64 k2,.int .u64 k3],.agg [.int .u64 ax0,.int .u64 ax1,.int .u64 ax2,.int .u64 ax3,.int .u64 ay0,.int .u64 ay1,.int .u64 ay2,.int .u64 ay3,.bool ai]],k=>((U64 j0.val)/\(U64 j1.val)/\(U64 j2.val)/\(U64 j3.val)/\(U64 k0.val)/\(U64 k1.val)/\(U64 k2.val)/\(U64 k3.val)/\(U64 ax0.val)/\(U64 ax1.val)/\(U64 ax2.val)/\(U64 ax3.val)/\(U64 ay0.val)/\(U64 ay1.val)/\(U64 ay2.val)/\(U64 ay3.val)/\(onP (val4 ax0.val ax1.val ax2.val ax3.val) (val4 ay0.val ay1.val ay2.val ay3.val) ai.val=true))/\(∀ r0:Int,r0=(cX (BF (val4 j0.val j1.val j2.val j3.val) (val4 k0.val k1.val k2.val k3.val) (pP (val4 ax0.val ax1.val ax2.val ax3.val) (val4 ay0.val ay1.val ay2.val ay3.val) ai.val)))->∀ r1:Int,r1=(cY (BF (val4 j0.val j1.val j2.val j3.val) (val4 k0.val k1.val k2.val k3.val) (pP (val4 ax0.val ax1.val ax2.val ax3.val) (val4 ay0.val ay1.val ay2.val ay3.val) ai.val)))->∀ r2:Bool,r2=(cB (BF (val4 j0.val j1.val j2.val j3.val) (val4 k0.val k1.val k2.val k3.val) (pP (val4 ax0.val ax1.val ax2.val ax3.val) (val4 ay0.val ay1.val ay2.val ay3.val) ai.val)))->k (.agg [.int .u64 (.sym (limb r0 0)),.int .u64 (.sym (limb r0 1)),.int .u64 (.sym (limb r0 2)),.int .u64 (.sym (limb r0 3)),.int .u64 (.sym (limb r1 0)),.int .u64 (.sym (limb r1 1)),.int .u64 (.sym (limb r1 2)),.int .u64 (.sym (limb r1 3)),.bool (.sym r2)]))
 | _,_=>False
def VCPBoth (j0:Int) (j1:Int) (j2:Int) (j3:Int) (k0:Int) (k1:Int) (k2:Int) (k3:Int) (ax0:Int) (ax1:Int) (ax2:Int) (ax3:Int) (ay0:Int) (ay1:Int) (ay2:Int) (ay3:Int) (ai:Bool):Prop :=
 True/\∀ (v1:Int),v1=(48439561293906451759052585252797914202762949526041747995844080717082404635286:Int)->∀ (v2:Int),v2=(36134250956749795798585127919587881956611106672985015071877198253568414405109:Int)->(U64 (limb v1 0)/\U64 (limb v1 1)/\U64 (limb v1 2)/\U64 (limb v1 3)/\U64 (limb v2 0)/\U64 (limb v2 1)/\U64 (limb v2 2)/\U64 (limb v2 3))/\∀ v3,v3=(soF false (val4 (limb v1 0) (limb v1 1) (limb v1 2) (limb v1 3)) (val4 (limb v2 0) (limb v2 1) (limb v2 2) (limb v2 3))).fst->∀ v4,v4=(soF false (val4 (limb v1 0) (limb v1 1) (limb v1 2) (limb v1 3)) (val4 (limb v2 0) (limb v2 1) (limb v2 2) (limb v2 3))).snd.fst->∀ v5,v5=(soF false (val4 (limb v1 0) (limb v1 1) (limb v1 2) (limb v1 3)) (val4 (limb v2 0) (limb v2 1) (limb v2 2) (limb v2 3))).snd.snd->(U64 ax0/\U64 ax1/\U64 ax2/\U64 ax3/\U64 ay0/\U64 ay1/\U64 ay2/\U64 ay3)/\∀ v6,v6=(soF ai (val4 ax0 ax1 ax2 ax3) (val4 ay0 ay1 ay2 ay3)).fst->∀ v7,v7=(soF ai (val4 ax0 ax1 ax2 ax3) (val4 ay0 ay1 ay2 ay3)).snd.fst->∀ v8,v8=(soF ai (val4 ax0 ax1 ax2 ax3) (val4 ay0 ay1 ay2 ay3)).snd.snd->(U64 j0/\U64 j1/\U64 j2/\U64 j3/\U64 (limb v3 0)/\U64 (limb v3 1)/\U64 (limb v3 2)/\U64 (limb v3 3)/\U64 (limb v4 0)/\U64 (limb v4 1)/\U64 (limb v4 2)/\U64 (limb v4 3)/\U64 (limb v5 0)/\U64 (limb v5 1)/\U64 (limb v5 2)/\U64 (limb v5 3)/\U64 k0/\U64 k1/\U64 k2/\U64 k3/\U64 (limb v6 0)/\U64 (limb v6 1)/\U64 (limb v6 2)/\U64 (limb v6 3)/\U64 (limb v7 0)/\U64 (limb v7 1)/\U64 (limb v7 2)/\U64 (limb v7 3)/\U64 (limb v8 0)/\U64 (limb v8 1)/\U64 (limb v8 2)/\U64 (limb v8 3)/\false=false/\false=false)/\∀ v9,v9=(botF (val4 j0 j1 j2 j3) (val4 k0 k1 k2 k3) (val4 (limb v3 0) (limb v3 1) (limb v3 2) (limb v3 3),val4 (limb v4 0) (limb v4 1) (limb v4 2) (limb v4 3),val4 (limb v5 0) (limb v5 1) (limb v5 2) (limb v5 3)) (val4 (limb v6 0) (limb v6 1) (limb v6 2) (limb v6 3),val4 (limb v7 0) (limb v7 1) (limb v7 2) (limb v7 3),val4 (limb v8 0) (limb v8 1) (limb v8 2) (limb v8 3))).fst->∀ v10,v10=(botF (val4 j0 j1 j2 j3) (val4 k0 k1 k2 k3) (val4 (limb v3 0) (limb v3 1) (limb v3 2) (limb v3 3),val4 (limb v4 0) (limb v4 1) (limb v4 2) (limb v4 3),val4 (limb v5 0) (limb v5 1) (limb v5 2) (limb v5 3)) (val4 (limb v6 0) (limb v6 1) (limb v6 2) (limb v6 3),val4 (limb v7 0) (limb v7 1) (limb v7 2) (limb v7 3),val4 (limb v8 0) (limb v8 1) (limb v8 2) (limb v8 3))).snd.fst->∀ v11,v11=(botF (val4 j0 j1 j2 j3) (val4 k0 k1 k2 k3) (val4 (limb v3 0) (limb v3 1) (limb v3 2) (limb v3 3),val4 (limb v4 0) (limb v4 1) (limb v4 2) (limb v4 3),val4 (limb v5 0) (limb v5 1) (limb v5 2) (limb v5 3)) (val4 (limb v6 0) (limb v6 1) (limb v6 2) (limb v6 3),val4 (limb v7 0) (limb v7 1) (limb v7 2) (limb v7 3),val4 (limb v8 0) (limb v8 1) (limb v8 2) (limb v8 3))).snd.snd->(U64 (limb v9 0)/\U64 (limb v9 1)/\U64 (limb v9 2)/\U64 (limb v9 3)/\U64 (limb v10 0)/\U64 (limb v10 1)/\U64 (limb v10 2)/\U64 (limb v10 3)/\U64 (limb v11 0)/\U64 (limb v11 1)/\U64 (limb v11 2)/\U64 (limb v11 3)/\false=false)/\∀ v12,v12=pnX (val4 (limb v9 0) (limb v9 1) (limb v9 2) (limb v9 3),val4 (limb v10 0) (limb v10 1) (limb v10 2) (limb v10 3),val4 (limb v11 0) (limb v11 1) (limb v11 2) (limb v11 3))->∀ v13,v13=pnY (val4 (limb v9 0) (limb v9 1) (limb v9 2) (limb v9 3),val4 (limb v10 0) (limb v10 1) (limb v10 2) (limb v10 3),val4 (limb v11 0) (limb v11 1) (limb v11 2) (limb v11 3))->∀ v14,v14=pnB (val4 (limb v9 0) (limb v9 1) (limb v9 2) (limb v9 3),val4 (limb v10 0) (limb v10 1) (limb v10 2) (limb v10 3),val4 (limb v11 0) (limb v11 1) (limb v11 2) (limb v11 3))->(IntKind.u64=IntKind.u64/\limb v12 0=limb (cX (BF (val4 j0 j1 j2 j3) (val4 k0 k1 k2 k3) (pP (val4 ax0 ax1 ax2 ax3) (val4 ay0 ay1 ay2 ay3) ai))) 0)/\(IntKind.u64=IntKind.u64/\limb v12 1=limb (cX (BF (val4 j0 j1 j2 j3) (val4 k0 k1 k2 k3) (pP (val4 ax0 ax1 ax2 ax3) (val4 ay0 ay1 ay2 ay3) ai))) 1)/\(IntKind.u64=IntKind.u64/\limb v12 2=limb (cX (BF (val4 j0 j1 j2 j3) (val4 k0 k1 k2 k3) (pP (val4 ax0 ax1 ax2 ax3) (val4 ay0 ay1 ay2 ay3) ai))) 2)/\(IntKind.u64=IntKind.u64/\limb v12 3=limb (cX (BF (val4 j0 j1 j2 j3) (val4 k0 k1 k2 k3) (pP (val4 ax0 ax1 ax2 ax3) (val4 ay0 ay1 ay2 ay3) ai))) 3)/\(IntKind.u64=IntKind.u64/\limb v13 0=limb (cY (BF (val4 j0 j1 j2 j3) (val4 k0 k1 k2 k3) (pP (val4 ax0 ax1 ax2 ax3) (val4 ay0 ay1 ay2 ay3) ai))) 0)/\(IntKind.u64=IntKind.u64/\limb v13 1=limb (cY (BF (val4 j0 j1 j2 j3) (val4 k0 k1 k2 k3) (pP (val4 ax0 ax1 ax2 ax3) (val4 ay0 ay1 ay2 ay3) ai))) 1)/\(IntKind.u64=IntKind.u64/\limb v13 2=limb (cY (BF (val4 j0 j1 j2 j3) (val4 k0 k1 k2 k3) (pP (val4 ax0 ax1 ax2 ax3) (val4 ay0 ay1 ay2 ay3) ai))) 2)/\(IntKind.u64=IntKind.u64/\limb v13 3=limb (cY (BF (val4 j0 j1 j2 j3) (val4 k0 k1 k2 k3) (pP (val4 ax0 ax1 ax2 ax3) (val4 ay0 ay1 ay2 ay3) ai))) 3)/\v14=cB (BF (val4 j0 j1 j2 j3) (val4 k0 k1 k2 k3) (pP (val4 ax0 ax1 ax2 ax3) (val4 ay0 ay1 ay2 ay3) ai))/\True
theorem tiePBoth (w0:World) (j0:Int) (j1:Int) (j2:Int) (j3:Int) (k0:Int) (k1:Int) (k2:Int) (k3:Int) (ax0:Int) (ax1:Int) (ax2:Int) (ax3:Int) (ay0:Int) (ay1:Int) (ay2:Int) (ay3:Int) (ai:Bool):VCPBoth j0 j1 j2 j3 k0 k1 k2 k3 ax0 ax1 ax2 ax3 ay0 ay1 ay2 ay3 ai=((recN (GC Tryz.prog ed1Spec w0) 40).call 12 [.agg [.int .u64 (.sym j0),.int .u64 (.sym j1),.int .u64 (.sym j2),.int .u64 (.sym j3)],.agg [.int .u64 (.sym k0),.int .u64 (.sym k1),.int .u64 (.sym k2),.int .u64 (.sym k3)],.agg [.int .u64 (.sym ax0),.int .u64 (.sym ax1),.int .u64 (.sym ax2),.int .u64 (.sym ax3),.int .u64 (.sym ay0),.int .u64 (.sym ay1),.int .u64 (.sym ay2),.int .u64 (.sym ay3),.bool (.sym ai)]] [] (fun r__ _=>eqV r__ (.agg [.int .u64 (.sym (limb (cX (BF (val4 j0 j1 j2 j3) (val4 k0 k1 k2 k3) (pP (val4 ax0 ax1 ax2 ax3) (val4 ay0 ay1 ay2 ay3) ai))) 0)),.int .u64 (.sym (limb (cX (BF (val4 j0 j1 j2 j3) (val4 k0 k1 k2 k3) (pP (val4 ax0 ax1 ax2 ax3) (val4 ay0 ay1 ay2 ay3) ai))) 1)),.int .u64 (.sym (limb (cX (BF (val4 j0 j1 j2 j3) (val4 k0 k1 k2 k3) (pP (val4 ax0 ax1 ax2 ax3) (val4 ay0 ay1 ay2 ay3) ai))) 2)),.int .u64 (.sym (limb (cX (BF (val4 j0 j1 j2 j3) (val4 k0 k1 k2 k3) (pP (val4 ax0 ax1 ax2 ax3) (val4 ay0 ay1 ay2 ay3) ai))) 3)),.int .u64 (.sym (limb (cY (BF (val4 j0 j1 j2 j3) (val4 k0 k1 k2 k3) (pP (val4 ax0 ax1 ax2 ax3) (val4 ay0 ay1 ay2 ay3) ai))) 0)),.int .u64 (.sym (limb (cY (BF (val4 j0 j1 j2 j3) (val4 k0 k1 k2 k3) (pP (val4 ax0 ax1 ax2 ax3) (val4 ay0 ay1 ay2 ay3) ai))) 1)),.int .u64 (.sym (limb (cY (BF (val4 j0 j1 j2 j3) (val4 k0 k1 k2 k3) (pP (val4 ax0 ax1 ax2 ax3) (val4 ay0 ay1 ay2 ay3) ai))) 2)),.int .u64 (.sym (limb (cY (BF (val4 j0 j1 j2 j3) (val4 k0 k1 k2 k3) (pP (val4 ax0 ax1 ax2 ax3) (val4 ay0 ay1 ay2 ay3) ai))) 3)),.bool (.sym (cB (BF (val4 j0 j1 j2 j3) (val4 k0 k1 k2 k3) (pP (val4 ax0 ax1 ax2 ax3) (val4 ay0 ay1 ay2 ay3) ai))))]))):=by kernel_rfl
theorem purePBoth (j0 j1 j2 j3 k0 k1 k2 k3 ax0 ax1 ax2 ax3 ay0 ay1 ay2 ay3:Int) (ai:Bool) (h:U64 j0/\U64 j1/\U64 j2/\U64 j3/\U64 k0/\U64 k1/\U64 k2/\U64 k3/\U64 ax0/\U64 ax1/\U64 ax2/\U64 ax3/\U64 ay0/\U64 ay1/\U64 ay2/\U64 ay3/\onP (val4 ax0 ax1 ax2 ax3) (val4 ay0 ay1 ay2 ay3) ai=true):VCPBoth j0 j1 j2 j3 k0 k1 k2 k3 ax0 ax1 ax2 ax3 ay0 ay1 ay2 ay3 ai:=by
 obtain ⟨hj0,hj1,hj2,hj3,hk0,hk1,hk2,hk3,hax0,hax1,hax2,hax3,hay0,hay1,hay2,hay3,ho⟩:=h
 have ej0:U64 j0=True:=eq_true hj0
 have ej1:U64 j1=True:=eq_true hj1
 have ej2:U64 j2=True:=eq_true hj2
 have ej3:U64 j3=True:=eq_true hj3
 have ek0:U64 k0=True:=eq_true hk0
 have ek1:U64 k1=True:=eq_true hk1
 have ek2:U64 k2=True:=eq_true hk2
 have ek3:U64 k3=True:=eq_true hk3
 have eax0:U64 ax0=True:=eq_true hax0
 have eax1:U64 ax1=True:=eq_true hax1
 have eax2:U64 ax2=True:=eq_true hax2
 have eax3:U64 ax3=True:=eq_true hax3
 have eay0:U64 ay0=True:=eq_true hay0
 have eay1:U64 ay1=True:=eq_true hay1
 have eay2:U64 ay2=True:=eq_true hay2
 have eay3:U64 ay3=True:=eq_true hay3
 have bj:=val4_lt hj0 hj1 hj2 hj3
 have bk:=val4_lt hk0 hk1 hk2 hk3
 have bx:=val4_lt hax0 hax1 hax2 hax3
 have by_:=val4_lt hay0 hay1 hay2 hay3
 have na:inB (soF ai (val4 ax0 ax1 ax2 ax3) (val4 ay0 ay1 ay2 ay3)):=inB_so bx by_
 have ng:inB (48439561293906451759052585252797914202762949526041747995844080717082404635286,36134250956749795798585127919587881956611106672985015071877198253568414405109,1):=by unfold inB; decide
 have nm:inB (botF (val4 j0 j1 j2 j3) (val4 k0 k1 k2 k3) (48439561293906451759052585252797914202762949526041747995844080717082404635286,36134250956749795798585127919587881956611106672985015071877198253568414405109,1) (soF ai (val4 ax0 ax1 ax2 ax3) (val4 ay0 ay1 ay2 ay3))):=inB_bs ng na (inB_pl ng na) _
 obtain ⟨p1,p2,p3⟩:=botP bj bk ho bx.1 by_.1
 unfold VCPBoth
 simp only [forall_eq,ulP,ej0,ej1,ej2,ej3,ek0,ek1,ek2,ek3,eax0,eax1,eax2,eax3,eay0,eay1,eay2,eay3,lgx,lgy,so_false,v1_0,lBd na.1,lBd na.2.1,lBd na.2.2,eta3,lBd nm.1,lBd nm.2.1,lBd nm.2.2,p1,p2,p3,and_self]
theorem pBoth_ok:SpecOk Tryz.prog 12 pBothSpec:=by
 intro args k h
 unfold pBothSpec at h
 split at h
 ·rename_i j0 j1 j2 j3 k0 k1 k2 k3 ax0 ax1 ax2 ax3 ay0 ay1 ay2 ay3 ai
  obtain ⟨hr,h⟩:=h
  exact ⟨_,h _ rfl _ rfl _ rfl,PureOk.of_tie (GC Tryz.prog ed1Spec) (fun w__=>gok w__ namesOk_ mixed_ ed1_ok) (fun _=>rfl) (fun _=>rfl) (args':=[.agg [.int .u64 (.sym j0.val),.int .u64 (.sym j1.val),.int .u64 (.sym j2.val),.int .u64 (.sym j3.val)],.agg [.int .u64 (.sym k0.val),.int .u64 (.sym k1.val),.int .u64 (.sym k2.val),.int .u64 (.sym k3.val)],.agg [.int .u64 (.sym ax0.val),.int .u64 (.sym ax1.val),.int .u64 (.sym ax2.val),.int .u64 (.sym ax3.val),.int .u64 (.sym ay0.val),.int .u64 (.sym ay1.val),.int .u64 (.sym ay2.val),.int .u64 (.sym ay3.val),.bool (.sym ai.val)]]) ⟨⟨⟨rfl,rfl⟩,⟨rfl,rfl⟩,⟨rfl,rfl⟩,⟨rfl,rfl⟩,trivial⟩,⟨⟨rfl,rfl⟩,⟨rfl,rfl⟩,⟨rfl,rfl⟩,⟨rfl,rfl⟩,trivial⟩,⟨⟨rfl,rfl⟩,⟨rfl,rfl⟩,⟨rfl,rfl⟩,⟨rfl,rfl⟩,⟨rfl,rfl⟩,⟨rfl,rfl⟩,⟨rfl,rfl⟩,⟨rfl,rfl⟩,rfl,trivial⟩,trivial⟩ 40 (fun w__=>VCPBoth j0.val j1.val j2.val j3.val k0.val k1.val k2.val k3.val ax0.val ax1.val ax2.val ax3.val ay0.val ay1.val ay2.val ay3.val ai.val) (fun w__=>tiePBoth w__ j0.val j1.val j2.val j3.val k0.val k1.val k2.val k3.val ax0.val ax1.val ax2.val ax3.val ay0.val ay1.val ay2.val ay3.val ai.val) (fun w__=>purePBoth j0.val j1.val j2.val j3.val k0.val k1.val k2.val k3.val ax0.val ax1.val ax2.val ax3.val ay0.val ay1.val ay2.val ay3.val ai.val hr)⟩
 ·exact h.elim

end Go.Proofs.YtaaobpalpcdlbaaGreat.Bits
