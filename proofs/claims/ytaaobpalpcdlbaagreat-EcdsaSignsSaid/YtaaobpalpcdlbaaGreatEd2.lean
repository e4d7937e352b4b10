import Derived.Test.YtaaobpalpcdlbaaGreatSxR
import Derived.Test.YtaaobpalpcdlbaaGreatProg
import Derived.Test.YtaaobpalpcdlbaaGreatEd1
import Derived.KernelRfl
namespace Go.Proofs.YtaaobpalpcdlbaaGreat.Bits
open Go Go.Sx Go.RowKit Go.EC
set_option linter.unusedVariables false
set_option maxRecDepth 100000
def ed2Spec:List (FuncId×CSpec):=[(63,cmpSpec),(61,mAddSpec),(64,mSubSpec),(53,remSpec),(50,mInvSpec),(29,pBaseSpec),(10,pMulSpec),(32,pOnSpec),(49,fromBigSpec),(47,eSecretSpec),(52,eTimesSpec),(12,pBothSpec)]
theorem ed2_ok:SpecsOk Tryz.prog ed2Spec:=⟨cmp_ok,mAdd_ok,mSub_ok,rem_ok,mInv_ok,pBase_ok,pMul_ok,pOn_ok,fromBig_ok,eSecret_ok,eTimes_ok,pBoth_ok,trivial⟩
def pubE (d:Int):Int:=if secF d then 0 else 13
def pubX (d:Int):Int:=if secF d then cX (QF d) else 0
def pubY (d:Int):Int:=if secF d then cY (QF d) else 0
def pubB (d:Int):Bool:=if secF d then cB (QF d) else false
def krF (k:Int):Int:=cX (QF k)%N2
noncomputable def ksF (d k z:Int):Int:=nI (invF k N2) ((z+nI (krF k) d)%N2)
noncomputable def sgE (d k:Int) (s:ByteArray):Int:=if !(secF d) || !(secF k) then 13 else if (s.size:Int)≠32 then 10 else if !(secF (krF k)) || !(secF (ksF d k (beF s))) then 13 else 0
noncomputable def sgR (d k:Int) (s:ByteArray):Int:=if sgE d k s=0 then krF k else 0
noncomputable def sgS (d k:Int) (s:ByteArray):Int:=if sgE d k s=0 then ksF d k (beF s) else 0
noncomputable def vkF (A:Pt p256) (z r s:Int):Pt p256:=BF (nI z (invF s N2)) (nI r (invF s N2)) A
noncomputable def chE (X Y:Int) (i:Bool) (t:ByteArray) (r s:Int):Int:=if i || !(onP X Y i) then 15 else if (t.size:Int)≠32 then 10 else if !(secF r) || !(secF s) then 13 else
 if cB (vkF (pP X Y i) (beF t) r s) || !decide (cX (vkF (pP X Y i) (beF t) r s)%N2=r) then 16 else 0
def loS (r s:Int):Int:=if r<N2/\s<N2/\(0-s)%N2<s then (0-s)%N2 else s
theorem mulG {k:Int} (hk:0<=k/\k<115792089237316195423570985008687907853269984665640564039457584007913129639936):pnX (mulF k (48439561293906451759052585252797914202762949526041747995844080717082404635286,36134250956749795798585127919587881956611106672985015071877198253568414405109,1))=cX (QF k)/\pnY (mulF k (48439561293906451759052585252797914202762949526041747995844080717082404635286,36134250956749795798585127919587881956611106672985015071877198253568414405109,1))=cY (QF k)/\pnB (mulF k (48439561293906451759052585252797914202762949526041747995844080717082404635286,36134250956749795798585127919587881956611106672985015071877198253568414405109,1))=cB (QF k):=pn_RI (mul_RI G_RI hk)
theorem rF0 (x:Int):rF x 0 115792089210356248762697446949407573529996955224135760342422259061068512044369=x%N2:=by
 unfold rF; rw [if_neg (by decide),Int.zero_mul,Int.zero_add]
theorem inN (x:Int):0<=x%N2/\x%N2<N2:=⟨Int.emod_nonneg _ (by decide),Int.emod_lt_of_pos _ (by decide)⟩
theorem lmN (x:Int):val4 (limb (x%N2) 0) (limb (x%N2) 1) (limb (x%N2) 2) (limb (x%N2) 3)=x%N2:=by
 have h:=inN x
 have h2:x%N2<115792089210356248762697446949407573529996955224135760342422259061068512044369:=h.2
 exact lBd ⟨h.1,by omega⟩
theorem lnI (a b:Int):val4 (limb (nI a b) 0) (limb (nI a b) 1) (limb (nI a b) 2) (limb (nI a b) 3)=nI a b:=lmN _
theorem lkr (k:Int):val4 (limb (krF k) 0) (limb (krF k) 1) (limb (krF k) 2) (limb (krF k) 3)=krF k:=lmN _
theorem lks (d k z:Int):val4 (limb (ksF d k z) 0) (limb (ksF d k z) 1) (limb (ksF d k z) 2) (limb (ksF d k z) 3)=ksF d k z:=lmN _
theorem lbe (t:ByteArray):val4 (limb (beF t) 0) (limb (beF t) 1) (limb (beF t) 2) (limb (beF t) 3)=beF t:=lBd (beF_in t)
theorem linv (k:Int):val4 (limb (invF k 115792089210356248762697446949407573529996955224135760342422259061068512044369) 0) (limb (invF k 115792089210356248762697446949407573529996955224135760342422259061068512044369) 1) (limb (invF k 115792089210356248762697446949407573529996955224135760342422259061068512044369) 2) (limb (invF k 115792089210356248762697446949407573529996955224135760342422259061068512044369) 3)=invF k 115792089210356248762697446949407573529996955224135760342422259061068512044369:=by
 have nn:=invF_ltP (a:=k) (m:=115792089210356248762697446949407573529996955224135760342422259061068512044369) (by decide)
 exact lBd ⟨nn.1,by omega⟩
theorem fold_kr (k:Int):cX (QF k)%N2=krF k:=rfl
theorem fold_ks (d k z:Int):nI (invF k 115792089210356248762697446949407573529996955224135760342422259061068512044369) ((z+nI (krF k) d)%N2)=ksF d k z:=rfl
theorem limbz4:limb 0 0=0/\limb 0 1=0/\limb 0 2=0/\limb 0 3=0:=by decide +kernel
def ePublicSpec:CSpec
 | [.agg [.int .u64 d0,.int .u64 d1,.int .u64 d2,.int .u64 d3]],k=>((U64 d0.val)/\(U64 d1.val)/\(U64 d2.val)/\(U64 d3.val))/\(∀ r0:Int,r0=(pubX (val4 d0.val d1.val d2.val d3.val))->∀ r1:Int,r1=(pubY (val4 d0.val d1.val d2.val d3.val))->∀ r2:Bool,r2=(pubB (val4 d0.val d1.val d2.val d3.val))->∀ r3:Int,r3=(pubE (val4 d0.val d1.val d2.val d3.val))->k (.tup [.agg [.int .u64 (.sym (limb r0 0)),.int .u64 (.sym (limb r0 1)),.int .u64 (.sym (limb r0 2)),.int .u64 (.sym (limb r0 3)),.int .u64 (.sym (limb r1 0)),.int .u64 (.sym (limb r1 1)),.int .u64 (.sym (limb r1 2)),.int .u64 (.sym (limb r1 3)),.bool (.sym r2)],.int .i64 (.sym r3)]))
 | _,_=>False
def VCEPublic (d0:Int) (d1:Int) (d2:Int) (d3:Int):Prop :=
 (U64 d0/\U64 d1/\U64 d2/\U64 d3)/\∀ v1,v1=secF (val4 d0 d1 d2 d3)->∀ (v2:Bool),v2=!v1->(v2=true->((IntKind.u64=IntKind.u64/\0=limb (pubX (val4 d0 d1 d2 d3)) 0)/\(IntKind.u64=IntKind.u64/\0=limb (pubX (val4 d0 d1 d2 d3)) 1)/\(IntKind.u64=IntKind.u64/\0=limb (pubX (val4 d0 d1 d2 d3)) 2)/\(IntKind.u64=IntKind.u64/\0=limb (pubX (val4 d0 d1 d2 d3)) 3)/\(IntKind.u64=IntKind.u64/\0=limb (pubY (val4 d0 d1 d2 d3)) 0)/\(IntKind.u64=IntKind.u64/\0=limb (pubY (val4 d0 d1 d2 d3)) 1)/\(IntKind.u64=IntKind.u64/\0=limb (pubY (val4 d0 d1 d2 d3)) 2)/\(IntKind.u64=IntKind.u64/\0=limb (pubY (val4 d0 d1 d2 d3)) 3)/\false=pubB (val4 d0 d1 d2 d3)/\True)/\(IntKind.i64=IntKind.i64/\(13:Int)=pubE (val4 d0 d1 d2 d3))/\True)/\(v2=false->True/\∀ (v3:Int),v3=(48439561293906451759052585252797914202762949526041747995844080717082404635286:Int)->∀ (v4:Int),v4=(36134250956749795798585127919587881956611106672985015071877198253568414405109:Int)->(U64 d0/\U64 d1/\U64 d2/\U64 d3/\U64 (limb v3 0)/\U64 (limb v3 1)/\U64 (limb v3 2)/\U64 (limb v3 3)/\U64 (limb v4 0)/\U64 (limb v4 1)/\U64 (limb v4 2)/\U64 (limb v4 3))/\∀ v5,v5=pnX (mulF (val4 d0 d1 d2 d3) (soF false (val4 (limb v3 0) (limb v3 1) (limb v3 2) (limb v3 3)) (val4 (limb v4 0) (limb v4 1) (limb v4 2) (limb v4 3))))->∀ v6,v6=pnY (mulF (val4 d0 d1 d2 d3) (soF false (val4 (limb v3 0) (limb v3 1) (limb v3 2) (limb v3 3)) (val4 (limb v4 0) (limb v4 1) (limb v4 2) (limb v4 3))))->∀ v7,v7=pnB (mulF (val4 d0 d1 d2 d3) (soF false (val4 (limb v3 0) (limb v3 1) (limb v3 2) (limb v3 3)) (val4 (limb v4 0) (limb v4 1) (limb v4 2) (limb v4 3))))->((IntKind.u64=IntKind.u64/\limb v5 0=limb (pubX (val4 d0 d1 d2 d3)) 0)/\(IntKind.u64=IntKind.u64/\limb v5 1=limb (pubX (val4 d0 d1 d2 d3)) 1)/\(IntKind.u64=IntKind.u64/\limb v5 2=limb (pubX (val4 d0 d1 d2 d3)) 2)/\(IntKind.u64=IntKind.u64/\limb v5 3=limb (pubX (val4 d0 d1 d2 d3)) 3)/\(IntKind.u64=IntKind.u64/\limb v6 0=limb (pubY (val4 d0 d1 d2 d3)) 0)/\(IntKind.u64=IntKind.u64/\limb v6 1=limb (pubY (val4 d0 d1 d2 d3)) 1)/\(IntKind.u64=IntKind.u64/\limb v6 2=limb (pubY (val4 d0 d1 d2 d3)) 2)/\(IntKind.u64=IntKind.u64/\limb v6 3=limb (pubY (val4 d0 d1 d2 d3)) 3)/\v7=pubB (val4 d0 d1 d2 d3)/\True)/\(IntKind.i64=IntKind.i64/\(0:Int)=pubE (val4 d0 d1 d2 d3))/\True)
theorem tieEPublic (w0:World) (d0:Int) (d1:Int) (d2:Int) (d3:Int):VCEPublic d0 d1 d2 d3=((recN (GC Tryz.prog ed2Spec w0) 40).call 17 [.agg [.int .u64 (.sym d0),.int .u64 (.sym d1),.int .u64 (.sym d2),.int .u64 (.sym d3)]] [] (fun r__ _=>eqV r__ (.tup [.agg [.int .u64 (.sym (limb (pubX (val4 d0 d1 d2 d3)) 0)),.int .u64 (.sym (limb (pubX (val4 d0 d1 d2 d3)) 1)),.int .u64 (.sym (limb (pubX (val4 d0 d1 d2 d3)) 2)),.int .u64 (.sym (limb (pubX (val4 d0 d1 d2 d3)) 3)),.int .u64 (.sym (limb (pubY (val4 d0 d1 d2 d3)) 0)),.int .u64 (.sym (limb (pubY (val4 d0 d1 d2 d3)) 1)),.int .u64 (.sym (limb (pubY (val4 d0 d1 d2 d3)) 2)),.int .u64 (.sym (limb (pubY (val4 d0 d1 d2 d3)) 3)),.bool (.sym (pubB (val4 d0 d1 d2 d3)))],.int .i64 (.sym (pubE (val4 d0 d1 d2 d3)))]))):=by kernel_rfl
theorem pureEPublic (d0 d1 d2 d3:Int) (h:U64 d0/\U64 d1/\U64 d2/\U64 d3):VCEPublic d0 d1 d2 d3:=by
 obtain ⟨hd0,hd1,hd2,hd3⟩:=h
 have ed0:U64 d0=True:=eq_true hd0
 have ed1:U64 d1=True:=eq_true hd1
 have ed2:U64 d2=True:=eq_true hd2
 have ed3:U64 d3=True:=eq_true hd3
 have bd:=val4_lt hd0 hd1 hd2 hd3
 obtain ⟨m1,m2,m3⟩:=mulG bd
 obtain ⟨z0,z1,z2,z3⟩:=limbz4
 unfold VCEPublic
 simp only [forall_eq,ulP,ed0,ed1,ed2,ed3,lgx,lgy,so_false,m1,m2,m3,true_and]
 generalize hD:val4 d0 d1 d2 d3=D at *
 unfold pubX pubY pubB pubE
 cases hs:secF D with
 | true=>simp only [Bool.false_eq_true,↓reduceIte,Bool.not_true,Bool.not_false,Bool.or_true,Bool.true_or,Bool.or_false,Bool.false_or,reduceCtorEq,false_implies,forall_const,true_and,and_true,and_self,ne_eq,not_true_eq_false,not_false_eq_true]
 | false=>simp only [z0,z1,z2,z3,Bool.false_eq_true,↓reduceIte,Bool.not_true,Bool.not_false,Bool.or_true,Bool.true_or,Bool.or_false,Bool.false_or,reduceCtorEq,false_implies,forall_const,true_and,and_true,and_self,ne_eq,not_true_eq_false,not_false_eq_true]
theorem ePublic_ok:SpecOk Tryz.prog 17 ePublicSpec:=by
 intro args k h
 unfold ePublicSpec at h
 split at h
 ·rename_i d0 d1 d2 d3
  obtain ⟨hr,h⟩:=h
  exact ⟨_,h _ rfl _ rfl _ rfl _ rfl,PureOk.of_tie (GC Tryz.prog ed2Spec) (fun w__=>gok w__ namesOk_ mixed_ ed2_ok) (fun _=>rfl) (fun _=>rfl) (args':=[.agg [.int .u64 (.sym d0.val),.int .u64 (.sym d1.val),.int .u64 (.sym d2.val),.int .u64 (.sym d3.val)]]) ⟨⟨⟨rfl,rfl⟩,⟨rfl,rfl⟩,⟨rfl,rfl⟩,⟨rfl,rfl⟩,trivial⟩,trivial⟩ 40 (fun w__=>VCEPublic d0.val d1.val d2.val d3.val) (fun w__=>tieEPublic w__ d0.val d1.val d2.val d3.val) (fun w__=>pureEPublic d0.val d1.val d2.val d3.val hr)⟩
 ·exact h.elim

def eSignSpec:CSpec
 | [.agg [.int .u64 d0,.int .u64 d1,.int .u64 d2,.int .u64 d3],.agg [.int .u64 k0,.int .u64 k1,.int .u64 k2,.int .u64 k3],.str t],k=>((U64 d0.val)/\(U64 d1.val)/\(U64 d2.val)/\(U64 d3.val)/\(U64 k0.val)/\(U64 k1.val)/\(U64 k2.val)/\(U64 k3.val)/\(t.val.size<=140737488355328))/\(∀ r0:Int,r0=(sgR (val4 d0.val d1.val d2.val d3.val) (val4 k0.val k1.val k2.val k3.val) t.val)->∀ r1:Int,r1=(sgS (val4 d0.val d1.val d2.val d3.val) (val4 k0.val k1.val k2.val k3.val) t.val)->∀ r2:Int,r2=(sgE (val4 d0.val d1.val d2.val d3.val) (val4 k0.val k1.val k2.val k3.val) t.val)->k (.tup [.agg [.int .u64 (.sym (limb r0 0)),.int .u64 (.sym (limb r0 1)),.int .u64 (.sym (limb r0 2)),.int .u64 (.sym (limb r0 3)),.int .u64 (.sym (limb r1 0)),.int .u64 (.sym (limb r1 1)),.int .u64 (.sym (limb r1 2)),.int .u64 (.sym (limb r1 3))],.int .i64 (.sym r2)]))
 | _,_=>False
def VCESign (d0:Int) (d1:Int) (d2:Int) (d3:Int) (k0:Int) (k1:Int) (k2:Int) (k3:Int) (t:ByteArray):Prop :=
 (U64 d0/\U64 d1/\U64 d2/\U64 d3)/\∀ v1,v1=secF (val4 d0 d1 d2 d3)->(U64 k0/\U64 k1/\U64 k2/\U64 k3)/\∀ v2,v2=secF (val4 k0 k1 k2 k3)->∀ (v3:Int),v3=↑t.size->∀ v4,v4=(v3==(32:Int))->∀ (v5:Bool),v5=!v1->(v5=true->((IntKind.u64=IntKind.u64/\0=limb (sgR (val4 d0 d1 d2 d3) (val4 k0 k1 k2 k3) t) 0)/\(IntKind.u64=IntKind.u64/\0=limb (sgR (val4 d0 d1 d2 d3) (val4 k0 k1 k2 k3) t) 1)/\(IntKind.u64=IntKind.u64/\0=limb (sgR (val4 d0 d1 d2 d3) (val4 k0 k1 k2 k3) t) 2)/\(IntKind.u64=IntKind.u64/\0=limb (sgR (val4 d0 d1 d2 d3) (val4 k0 k1 k2 k3) t) 3)/\(IntKind.u64=IntKind.u64/\0=limb (sgS (val4 d0 d1 d2 d3) (val4 k0 k1 k2 k3) t) 0)/\(IntKind.u64=IntKind.u64/\0=limb (sgS (val4 d0 d1 d2 d3) (val4 k0 k1 k2 k3) t) 1)/\(IntKind.u64=IntKind.u64/\0=limb (sgS (val4 d0 d1 d2 d3) (val4 k0 k1 k2 k3) t) 2)/\(IntKind.u64=IntKind.u64/\0=limb (sgS (val4 d0 d1 d2 d3) (val4 k0 k1 k2 k3) t) 3)/\True)/\(IntKind.i64=IntKind.i64/\(13:Int)=sgE (val4 d0 d1 d2 d3) (val4 k0 k1 k2 k3) t)/\True)/\(v5=false->∀ (v6:Bool),v6=!v2->(v6=true->((IntKind.u64=IntKind.u64/\0=limb (sgR (val4 d0 d1 d2 d3) (val4 k0 k1 k2 k3) t) 0)/\(IntKind.u64=IntKind.u64/\0=limb (sgR (val4 d0 d1 d2 d3) (val4 k0 k1 k2 k3) t) 1)/\(IntKind.u64=IntKind.u64/\0=limb (sgR (val4 d0 d1 d2 d3) (val4 k0 k1 k2 k3) t) 2)/\(IntKind.u64=IntKind.u64/\0=limb (sgR (val4 d0 d1 d2 d3) (val4 k0 k1 k2 k3) t) 3)/\(IntKind.u64=IntKind.u64/\0=limb (sgS (val4 d0 d1 d2 d3) (val4 k0 k1 k2 k3) t) 0)/\(IntKind.u64=IntKind.u64/\0=limb (sgS (val4 d0 d1 d2 d3) (val4 k0 k1 k2 k3) t) 1)/\(IntKind.u64=IntKind.u64/\0=limb (sgS (val4 d0 d1 d2 d3) (val4 k0 k1 k2 k3) t) 2)/\(IntKind.u64=IntKind.u64/\0=limb (sgS (val4 d0 d1 d2 d3) (val4 k0 k1 k2 k3) t) 3)/\True)/\(IntKind.i64=IntKind.i64/\(13:Int)=sgE (val4 d0 d1 d2 d3) (val4 k0 k1 k2 k3) t)/\True)/\(v6=false->∀ (v7:Bool),v7=!v4->(v7=true->((IntKind.u64=IntKind.u64/\0=limb (sgR (val4 d0 d1 d2 d3) (val4 k0 k1 k2 k3) t) 0)/\(IntKind.u64=IntKind.u64/\0=limb (sgR (val4 d0 d1 d2 d3) (val4 k0 k1 k2 k3) t) 1)/\(IntKind.u64=IntKind.u64/\0=limb (sgR (val4 d0 d1 d2 d3) (val4 k0 k1 k2 k3) t) 2)/\(IntKind.u64=IntKind.u64/\0=limb (sgR (val4 d0 d1 d2 d3) (val4 k0 k1 k2 k3) t) 3)/\(IntKind.u64=IntKind.u64/\0=limb (sgS (val4 d0 d1 d2 d3) (val4 k0 k1 k2 k3) t) 0)/\(IntKind.u64=IntKind.u64/\0=limb (sgS (val4 d0 d1 d2 d3) (val4 k0 k1 k2 k3) t) 1)/\(IntKind.u64=IntKind.u64/\0=limb (sgS (val4 d0 d1 d2 d3) (val4 k0 k1 k2 k3) t) 2)/\(IntKind.u64=IntKind.u64/\0=limb (sgS (val4 d0 d1 d2 d3) (val4 k0 k1 k2 k3) t) 3)/\True)/\(IntKind.i64=IntKind.i64/\(10:Int)=sgE (val4 d0 d1 d2 d3) (val4 k0 k1 k2 k3) t)/\True)/\(v7=false->t.size<=140737488355328/\∀ v8,v8=beF t->∀ v9,v9=erF ↑t.size (32:Int)->True/\∀ (v10:Int),v10=(48439561293906451759052585252797914202762949526041747995844080717082404635286:Int)->∀ (v11:Int),v11=(36134250956749795798585127919587881956611106672985015071877198253568414405109:Int)->(U64 k0/\U64 k1/\U64 k2/\U64 k3/\U64 (limb v10 0)/\U64 (limb v10 1)/\U64 (limb v10 2)/\U64 (limb v10 3)/\U64 (limb v11 0)/\U64 (limb v11 1)/\U64 (limb v11 2)/\U64 (limb v11 3))/\∀ v12,v12=pnX (mulF (val4 k0 k1 k2 k3) (soF false (val4 (limb v10 0) (limb v10 1) (limb v10 2) (limb v10 3)) (val4 (limb v11 0) (limb v11 1) (limb v11 2) (limb v11 3))))->∀ v13,v13=pnY (mulF (val4 k0 k1 k2 k3) (soF false (val4 (limb v10 0) (limb v10 1) (limb v10 2) (limb v10 3)) (val4 (limb v11 0) (limb v11 1) (limb v11 2) (limb v11 3))))->∀ v14,v14=pnB (mulF (val4 k0 k1 k2 k3) (soF false (val4 (limb v10 0) (limb v10 1) (limb v10 2) (limb v10 3)) (val4 (limb v11 0) (limb v11 1) (limb v11 2) (limb v11 3))))->(U64 (limb v12 0)/\U64 (limb v12 1)/\U64 (limb v12 2)/\U64 (limb v12 3)/\U64 0/\U64 0/\U64 0/\U64 0/\U64 17562291160714782033/\U64 13611842547513532036/\U64 18446744073709551615/\U64 18446744069414584320)/\∀ v15,v15=rF (val4 (limb v12 0) (limb v12 1) (limb v12 2) (limb v12 3)) (0:Int) (115792089210356248762697446949407573529996955224135760342422259061068512044369:Int)->(U64 k0/\U64 k1/\U64 k2/\U64 k3/\U64 17562291160714782033/\U64 13611842547513532036/\U64 18446744073709551615/\U64 18446744069414584320)/\∀ v16,v16=invF (val4 k0 k1 k2 k3) (115792089210356248762697446949407573529996955224135760342422259061068512044369:Int)->∀ v17,v17=okF (val4 k0 k1 k2 k3) (115792089210356248762697446949407573529996955224135760342422259061068512044369:Int)->(U64 (limb v15 0)/\U64 (limb v15 1)/\U64 (limb v15 2)/\U64 (limb v15 3)/\U64 d0/\U64 d1/\U64 d2/\U64 d3)/\∀ v18,v18=nI (val4 (limb v15 0) (limb v15 1) (limb v15 2) (limb v15 3)) (val4 d0 d1 d2 d3)->(U64 (limb v8 0)/\U64 (limb v8 1)/\U64 (limb v8 2)/\U64 (limb v8 3)/\U64 (limb v18 0)/\U64 (limb v18 1)/\U64 (limb v18 2)/\U64 (limb v18 3)/\U64 17562291160714782033/\U64 13611842547513532036/\U64 18446744073709551615/\U64 18446744069414584320)/\∀ v19,v19=modF (val4 (limb v8 0) (limb v8 1) (limb v8 2) (limb v8 3)+val4 (limb v18 0) (limb v18 1) (limb v18 2) (limb v18 3)) (115792089210356248762697446949407573529996955224135760342422259061068512044369:Int)->(U64 (limb v16 0)/\U64 (limb v16 1)/\U64 (limb v16 2)/\U64 (limb v16 3)/\U64 (limb v19 0)/\U64 (limb v19 1)/\U64 (limb v19 2)/\U64 (limb v19 3))/\∀ v20,v20=nI (val4 (limb v16 0) (limb v16 1) (limb v16 2) (limb v16 3)) (val4 (limb v19 0) (limb v19 1) (limb v19 2) (limb v19 3))->(U64 (limb v15 0)/\U64 (limb v15 1)/\U64 (limb v15 2)/\U64 (limb v15 3))/\∀ v21,v21=secF (val4 (limb v15 0) (limb v15 1) (limb v15 2) (limb v15 3))->∀ (v22:Bool),v22=!v21->(v22=false->(U64 (limb v20 0)/\U64 (limb v20 1)/\U64 (limb v20 2)/\U64 (limb v20 3))/\∀ v23,v23=secF (val4 (limb v20 0) (limb v20 1) (limb v20 2) (limb v20 3))->∀ (v24:Bool),v24=!v23->(v24=true->((IntKind.u64=IntKind.u64/\0=limb (sgR (val4 d0 d1 d2 d3) (val4 k0 k1 k2 k3) t) 0)/\(IntKind.u64=IntKind.u64/\0=limb (sgR (val4 d0 d1 d2 d3) (val4 k0 k1 k2 k3) t) 1)/\(IntKind.u64=IntKind.u64/\0=limb (sgR (val4 d0 d1 d2 d3) (val4 k0 k1 k2 k3) t) 2)/\(IntKind.u64=IntKind.u64/\0=limb (sgR (val4 d0 d1 d2 d3) (val4 k0 k1 k2 k3) t) 3)/\(IntKind.u64=IntKind.u64/\0=limb (sgS (val4 d0 d1 d2 d3) (val4 k0 k1 k2 k3) t) 0)/\(IntKind.u64=IntKind.u64/\0=limb (sgS (val4 d0 d1 d2 d3) (val4 k0 k1 k2 k3) t) 1)/\(IntKind.u64=IntKind.u64/\0=limb (sgS (val4 d0 d1 d2 d3) (val4 k0 k1 k2 k3) t) 2)/\(IntKind.u64=IntKind.u64/\0=limb (sgS (val4 d0 d1 d2 d3) (val4 k0 k1 k2 k3) t) 3)/\True)/\(IntKind.i64=IntKind.i64/\(13:Int)=sgE (val4 d0 d1 d2 d3) (val4 k0 k1 k2 k3) t)/\True)/\(v24=false->((IntKind.u64=IntKind.u64/\limb v15 0=limb (sgR (val4 d0 d1 d2 d3) (val4 k0 k1 k2 k3) t) 0)/\(IntKind.u64=IntKind.u64/\limb v15 1=limb (sgR (val4 d0 d1 d2 d3) (val4 k0 k1 k2 k3) t) 1)/\(IntKind.u64=IntKind.u64/\limb v15 2=limb (sgR (val4 d0 d1 d2 d3) (val4 k0 k1 k2 k3) t) 2)/\(IntKind.u64=IntKind.u64/\limb v15 3=limb (sgR (val4 d0 d1 d2 d3) (val4 k0 k1 k2 k3) t) 3)/\(IntKind.u64=IntKind.u64/\limb v20 0=limb (sgS (val4 d0 d1 d2 d3) (val4 k0 k1 k2 k3) t) 0)/\(IntKind.u64=IntKind.u64/\limb v20 1=limb (sgS (val4 d0 d1 d2 d3) (val4 k0 k1 k2 k3) t) 1)/\(IntKind.u64=IntKind.u64/\limb v20 2=limb (sgS (val4 d0 d1 d2 d3) (val4 k0 k1 k2 k3) t) 2)/\(IntKind.u64=IntKind.u64/\limb v20 3=limb (sgS (val4 d0 d1 d2 d3) (val4 k0 k1 k2 k3) t) 3)/\True)/\(IntKind.i64=IntKind.i64/\(0:Int)=sgE (val4 d0 d1 d2 d3) (val4 k0 k1 k2 k3) t)/\True))/\(v22=true->((IntKind.u64=IntKind.u64/\0=limb (sgR (val4 d0 d1 d2 d3) (val4 k0 k1 k2 k3) t) 0)/\(IntKind.u64=IntKind.u64/\0=limb (sgR (val4 d0 d1 d2 d3) (val4 k0 k1 k2 k3) t) 1)/\(IntKind.u64=IntKind.u64/\0=limb (sgR (val4 d0 d1 d2 d3) (val4 k0 k1 k2 k3) t) 2)/\(IntKind.u64=IntKind.u64/\0=limb (sgR (val4 d0 d1 d2 d3) (val4 k0 k1 k2 k3) t) 3)/\(IntKind.u64=IntKind.u64/\0=limb (sgS (val4 d0 d1 d2 d3) (val4 k0 k1 k2 k3) t) 0)/\(IntKind.u64=IntKind.u64/\0=limb (sgS (val4 d0 d1 d2 d3) (val4 k0 k1 k2 k3) t) 1)/\(IntKind.u64=IntKind.u64/\0=limb (sgS (val4 d0 d1 d2 d3) (val4 k0 k1 k2 k3) t) 2)/\(IntKind.u64=IntKind.u64/\0=limb (sgS (val4 d0 d1 d2 d3) (val4 k0 k1 k2 k3) t) 3)/\True)/\(IntKind.i64=IntKind.i64/\(13:Int)=sgE (val4 d0 d1 d2 d3) (val4 k0 k1 k2 k3) t)/\True))))
theorem tieESign (w0:World) (d0:Int) (d1:Int) (d2:Int) (d3:Int) (k0:Int) (k1:Int) (k2:Int) (k3:Int) (t:ByteArray):VCESign d0 d1 d2 d3 k0 k1 k2 k3 t=((recN (GC Tryz.prog ed2Spec w0) 40).call 19 [.agg [.int .u64 (.sym d0),.int .u64 (.sym d1),.int .u64 (.sym d2),.int .u64 (.sym d3)],.agg [.int .u64 (.sym k0),.int .u64 (.sym k1),.int .u64 (.sym k2),.int .u64 (.sym k3)],.str (.sym t)] [] (fun r__ _=>eqV r__ (.tup [.agg [.int .u64 (.sym (limb (sgR (val4 d0 d1 d2 d3) (val4 k0 k1 k2 k3) t) 0)),.int .u64 (.sym (limb (sgR (val4 d0 d1 d2 d3) (val4 k0 k1 k2 k3) t) 1)),.int .u64 (.sym (limb (sgR (val4 d0 d1 d2 d3) (val4 k0 k1 k2 k3) t) 2)),.int .u64 (.sym (limb (sgR (val4 d0 d1 d2 d3) (val4 k0 k1 k2 k3) t) 3)),.int .u64 (.sym (limb (sgS (val4 d0 d1 d2 d3) (val4 k0 k1 k2 k3) t) 0)),.int .u64 (.sym (limb (sgS (val4 d0 d1 d2 d3) (val4 k0 k1 k2 k3) t) 1)),.int .u64 (.sym (limb (sgS (val4 d0 d1 d2 d3) (val4 k0 k1 k2 k3) t) 2)),.int .u64 (.sym (limb (sgS (val4 d0 d1 d2 d3) (val4 k0 k1 k2 k3) t) 3))],.int .i64 (.sym (sgE (val4 d0 d1 d2 d3) (val4 k0 k1 k2 k3) t))]))):=by kernel_rfl
theorem pureESign (d0 d1 d2 d3 k0 k1 k2 k3:Int) (t:ByteArray) (h:U64 d0/\U64 d1/\U64 d2/\U64 d3/\U64 k0/\U64 k1/\U64 k2/\U64 k3/\t.size<=140737488355328):VCESign d0 d1 d2 d3 k0 k1 k2 k3 t:=by
 obtain ⟨hd0,hd1,hd2,hd3,hk0,hk1,hk2,hk3,ht⟩:=h
 have ed0:U64 d0=True:=eq_true hd0
 have ed1:U64 d1=True:=eq_true hd1
 have ed2:U64 d2=True:=eq_true hd2
 have ed3:U64 d3=True:=eq_true hd3
 have ek0:U64 k0=True:=eq_true hk0
 have ek1:U64 k1=True:=eq_true hk1
 have ek2:U64 k2=True:=eq_true hk2
 have ek3:U64 k3=True:=eq_true hk3
 have et:(t.size<=140737488355328)=True:=eq_true ht
 have bk:=val4_lt hk0 hk1 hk2 hk3
 obtain ⟨m1,m2,m3⟩:=mulG bk
 obtain ⟨z0,z1,z2,z3⟩:=limbz4
 obtain ⟨q0,q1,q2,q3⟩:=n2w
 have w0:U64 0=True:=eq_true U64_0
 have p0:U64 17562291160714782033=True:=eq_true q0
 have p1:U64 13611842547513532036=True:=eq_true q1
 have p2:U64 18446744073709551615=True:=eq_true q2
 have p3:U64 18446744069414584320=True:=eq_true q3
 unfold VCESign
 simp only [forall_eq,ulP,ed0,ed1,ed2,ed3,ek0,ek1,ek2,ek3,et,w0,p0,p1,p2,p3,lgx,lgy,so_false,m1,m2,m3,lcX,rF0,fold_kr,modN2,lmN,lnI,lkr,lbe,linv,fold_ks,lks,true_and]
 generalize val4 d0 d1 d2 d3=D at *
 generalize val4 k0 k1 k2 k3=K at *
 unfold sgR sgS sgE
 by_cases z:(t.size:Int)=32
 ·cases hd:secF D<;>cases hk:secF K<;>cases hr:secF (krF K)<;>cases hs:secF (ksF D K (beF t))<;>simp only [hd,hk,hr,hs,z,z0,z1,z2,z3,beq_self_eq_true,show ¬ ((13:Int)=0) by decide,Bool.false_eq_true,↓reduceIte,Bool.not_true,Bool.not_false,Bool.or_true,Bool.true_or,Bool.or_false,Bool.false_or,reduceCtorEq,false_implies,forall_const,true_and,and_true,and_self,ne_eq,not_true_eq_false,not_false_eq_true]
 ·have z':((t.size:Int)==32)=false:=beq_eq_false_iff_ne.2 z
  cases hd:secF D<;>cases hk:secF K<;>simp only [hd,hk,z,z',z0,z1,z2,z3,show ¬ ((13:Int)=0) by decide,show ¬ ((10:Int)=0) by decide,Bool.false_eq_true,↓reduceIte,Bool.not_true,Bool.not_false,Bool.or_true,Bool.true_or,Bool.or_false,Bool.false_or,reduceCtorEq,false_implies,forall_const,true_and,and_true,and_self,ne_eq,not_true_eq_false,not_false_eq_true]
theorem eSign_ok:SpecOk Tryz.prog 19 eSignSpec:=by
 intro args k h
 unfold eSignSpec at h
 split at h
 ·rename_i d0 d1 d2 d3 k0 k1 k2 k3 t
  obtain ⟨hr,h⟩:=h
  exact ⟨_,h _ rfl _ rfl _ rfl,PureOk.of_tie (GC Tryz.prog ed2Spec) (fun w__=>gok w__ namesOk_ mixed_ ed2_ok) (fun _=>rfl) (fun _=>rfl) (args':=[.agg [.int .u64 (.sym d0.val),.int .u64 (.sym d1.val),.int .u64 (.sym d2.val),.int .u64 (.sym d3.val)],.agg [.int .u64 (.sym k0.val),.int .u64 (.sym k1.val),.int .u64 (.sym k2.val),.int .u64 (.sym k3.val)],.str (.sym t.val)]) ⟨⟨⟨rfl,rfl⟩,⟨rfl,rfl⟩,⟨rfl,rfl⟩,⟨rfl,rfl⟩,trivial⟩,⟨⟨rfl,rfl⟩,⟨rfl,rfl⟩,⟨rfl,rfl⟩,⟨rfl,rfl⟩,trivial⟩,rfl,trivial⟩ 40 (fun w__=>VCESign d0.val d1.val d2.val d3.val k0.val k1.val k2.val k3.val t.val) (fun w__=>tieESign w__ d0.val d1.val d2.val d3.val k0.val k1.val k2.val k3.val t.val) (fun w__=>pureESign d0.val d1.val d2.val d3.val k0.val k1.val k2.val k3.val t.val hr)⟩
 ·exact h.elim

def eCheckSpec:CSpec
 | [.agg [.int .u64 ax0,.int .u64 ax1,.int .u64 ax2,.int .u64 ax3,.int .u64 ay0,.int .u64 ay1,.int .u64 ay2,.int .u64 ay3,.bool ai],.str t,.agg [.int .u64 gr0,.int .u64 gr1,.int .u64 gr2,.int .u64 gr3,.int .u64 gs0,.int .u64 gs1,.int .u64 gs2,.int .u64 gs3]],k=>((U64 ax0.val)/\(U64 ax1.val)/\(U64 ax2.val)/\(U64 ax3.val)/\(U64 ay0.val)/\(U64 ay1.val)/\(U64 ay2.val)/\(U64 ay3.val)/\(U64 gr0.val)/\(U64 gr1.val)/\(U64 gr2.val)/\(U64 gr3.val)/\(U64 gs0.val)/\(U64 gs1.val)/\(U64 gs2.val)/\(U64 gs3.val)/\(t.val.size<=140737488355328))/\(∀ r0:Int,r0=(chE (val4 ax0.val ax1.val ax2.val ax3.val) (val4 ay0.val ay1.val ay2.val ay3.val) ai.val t.val (val4 gr0.val gr1.val gr2.val gr3.val) (val4 gs0.val gs1.val gs2.val gs3.val))->k (.int .i64 (.sym r0)))
 | _,_=>False
def VCECheck (ax0:Int) (ax1:Int) (ax2:Int) (ax3:Int) (ay0:Int) (ay1:Int) (ay2:Int) (ay3:Int) (ai:Bool) (t:ByteArray) (gr0:Int) (gr1:Int) (gr2:Int) (gr3:Int) (gs0:Int) (gs1:Int) (gs2:Int) (gs3:Int):Prop :=
 ∀ (v1:Bool),v1=!ai->(U64 ax0/\U64 ax1/\U64 ax2/\U64 ax3/\U64 ay0/\U64 ay1/\U64 ay2/\U64 ay3)/\∀ v2,v2=onP (val4 ax0 ax1 ax2 ax3) (val4 ay0 ay1 ay2 ay3) ai->∀ (v3:Int),v3=↑t.size->∀ v4,v4=(v3==(32:Int))->(U64 gr0/\U64 gr1/\U64 gr2/\U64 gr3)/\∀ v5,v5=secF (val4 gr0 gr1 gr2 gr3)->(U64 gs0/\U64 gs1/\U64 gs2/\U64 gs3)/\∀ v6,v6=secF (val4 gs0 gs1 gs2 gs3)->∀ (v7:Bool),v7=!v1->(v7=true->IntKind.i64=IntKind.i64/\(15:Int)=chE (val4 ax0 ax1 ax2 ax3) (val4 ay0 ay1 ay2 ay3) ai t (val4 gr0 gr1 gr2 gr3) (val4 gs0 gs1 gs2 gs3))/\(v7=false->∀ (v8:Bool),v8=!v2->(v8=true->IntKind.i64=IntKind.i64/\(15:Int)=chE (val4 ax0 ax1 ax2 ax3) (val4 ay0 ay1 ay2 ay3) ai t (val4 gr0 gr1 gr2 gr3) (val4 gs0 gs1 gs2 gs3))/\(v8=false->∀ (v9:Bool),v9=!v4->(v9=true->IntKind.i64=IntKind.i64/\(10:Int)=chE (val4 ax0 ax1 ax2 ax3) (val4 ay0 ay1 ay2 ay3) ai t (val4 gr0 gr1 gr2 gr3) (val4 gs0 gs1 gs2 gs3))/\(v9=false->∀ (v10:Bool),v10=!v5->(v10=true->IntKind.i64=IntKind.i64/\(13:Int)=chE (val4 ax0 ax1 ax2 ax3) (val4 ay0 ay1 ay2 ay3) ai t (val4 gr0 gr1 gr2 gr3) (val4 gs0 gs1 gs2 gs3))/\(v10=false->∀ (v11:Bool),v11=!v6->(v11=true->IntKind.i64=IntKind.i64/\(13:Int)=chE (val4 ax0 ax1 ax2 ax3) (val4 ay0 ay1 ay2 ay3) ai t (val4 gr0 gr1 gr2 gr3) (val4 gs0 gs1 gs2 gs3))/\(v11=false->t.size<=140737488355328/\∀ v12,v12=beF t->∀ v13,v13=erF ↑t.size (32:Int)->(U64 gs0/\U64 gs1/\U64 gs2/\U64 gs3/\U64 17562291160714782033/\U64 13611842547513532036/\U64 18446744073709551615/\U64 18446744069414584320)/\∀ v14,v14=invF (val4 gs0 gs1 gs2 gs3) (115792089210356248762697446949407573529996955224135760342422259061068512044369:Int)->∀ v15,v15=okF (val4 gs0 gs1 gs2 gs3) (115792089210356248762697446949407573529996955224135760342422259061068512044369:Int)->(U64 (limb v12 0)/\U64 (limb v12 1)/\U64 (limb v12 2)/\U64 (limb v12 3)/\U64 (limb v14 0)/\U64 (limb v14 1)/\U64 (limb v14 2)/\U64 (limb v14 3))/\∀ v16,v16=nI (val4 (limb v12 0) (limb v12 1) (limb v12 2) (limb v12 3)) (val4 (limb v14 0) (limb v14 1) (limb v14 2) (limb v14 3))->(U64 gr0/\U64 gr1/\U64 gr2/\U64 gr3/\U64 (limb v14 0)/\U64 (limb v14 1)/\U64 (limb v14 2)/\U64 (limb v14 3))/\∀ v17,v17=nI (val4 gr0 gr1 gr2 gr3) (val4 (limb v14 0) (limb v14 1) (limb v14 2) (limb v14 3))->(U64 (limb v16 0)/\U64 (limb v16 1)/\U64 (limb v16 2)/\U64 (limb v16 3)/\U64 (limb v17 0)/\U64 (limb v17 1)/\U64 (limb v17 2)/\U64 (limb v17 3)/\U64 ax0/\U64 ax1/\U64 ax2/\U64 ax3/\U64 ay0/\U64 ay1/\U64 ay2/\U64 ay3/\onP (val4 ax0 ax1 ax2 ax3) (val4 ay0 ay1 ay2 ay3) ai=true)/\∀ v18,v18=cX (BF (val4 (limb v16 0) (limb v16 1) (limb v16 2) (limb v16 3)) (val4 (limb v17 0) (limb v17 1) (limb v17 2) (limb v17 3)) (pP (val4 ax0 ax1 ax2 ax3) (val4 ay0 ay1 ay2 ay3) ai))->∀ v19,v19=cY (BF (val4 (limb v16 0) (limb v16 1) (limb v16 2) (limb v16 3)) (val4 (limb v17 0) (limb v17 1) (limb v17 2) (limb v17 3)) (pP (val4 ax0 ax1 ax2 ax3) (val4 ay0 ay1 ay2 ay3) ai))->∀ v20,v20=cB (BF (val4 (limb v16 0) (limb v16 1) (limb v16 2) (limb v16 3)) (val4 (limb v17 0) (limb v17 1) (limb v17 2) (limb v17 3)) (pP (val4 ax0 ax1 ax2 ax3) (val4 ay0 ay1 ay2 ay3) ai))->(v20=false->(U64 (limb v18 0)/\U64 (limb v18 1)/\U64 (limb v18 2)/\U64 (limb v18 3)/\U64 0/\U64 0/\U64 0/\U64 0/\U64 17562291160714782033/\U64 13611842547513532036/\U64 18446744073709551615/\U64 18446744069414584320)/\∀ v21,v21=rF (val4 (limb v18 0) (limb v18 1) (limb v18 2) (limb v18 3)) (0:Int) (115792089210356248762697446949407573529996955224135760342422259061068512044369:Int)->∀ (v22:Bool),v22=!(limb v21 0==gr0&&(limb v21 1==gr1&&(limb v21 2==gr2&&(limb v21 3==gr3&&true))))->(v22=true->IntKind.i64=IntKind.i64/\(16:Int)=chE (val4 ax0 ax1 ax2 ax3) (val4 ay0 ay1 ay2 ay3) ai t (val4 gr0 gr1 gr2 gr3) (val4 gs0 gs1 gs2 gs3))/\(v22=false->IntKind.i64=IntKind.i64/\(0:Int)=chE (val4 ax0 ax1 ax2 ax3) (val4 ay0 ay1 ay2 ay3) ai t (val4 gr0 gr1 gr2 gr3) (val4 gs0 gs1 gs2 gs3)))/\(v20=true->IntKind.i64=IntKind.i64/\(16:Int)=chE (val4 ax0 ax1 ax2 ax3) (val4 ay0 ay1 ay2 ay3) ai t (val4 gr0 gr1 gr2 gr3) (val4 gs0 gs1 gs2 gs3)))))))
theorem tieECheck (w0:World) (ax0:Int) (ax1:Int) (ax2:Int) (ax3:Int) (ay0:Int) (ay1:Int) (ay2:Int) (ay3:Int) (ai:Bool) (t:ByteArray) (gr0:Int) (gr1:Int) (gr2:Int) (gr3:Int) (gs0:Int) (gs1:Int) (gs2:Int) (gs3:Int):VCECheck ax0 ax1 ax2 ax3 ay0 ay1 ay2 ay3 ai t gr0 gr1 gr2 gr3 gs0 gs1 gs2 gs3=((recN (GC Tryz.prog ed2Spec w0) 60).call 14 [.agg [.int .u64 (.sym ax0),.int .u64 (.sym ax1),.int .u64 (.sym ax2),.int .u64 (.sym ax3),.int .u64 (.sym ay0),.int .u64 (.sym ay1),.int .u64 (.sym ay2),.int .u64 (.sym ay3),.bool (.sym ai)],.str (.sym t),.agg [.int .u64 (.sym gr0),.int .u64 (.sym gr1),.int .u64 (.sym gr2),.int .u64 (.sym gr3),.int .u64 (.sym gs0),.int .u64 (.sym gs1),.int .u64 (.sym gs2),.int .u64 (.sym gs3)]] [] (fun r__ _=>eqV r__ (.int .i64 (.sym (chE (val4 ax0 ax1 ax2 ax3) (val4 ay0 ay1 ay2 ay3) ai t (val4 gr0 gr1 gr2 gr3) (val4 gs0 gs1 gs2 gs3)))))):=by kernel_rfl
theorem pureECheck (ax0 ax1 ax2 ax3 ay0 ay1 ay2 ay3:Int) (ai:Bool) (t:ByteArray) (gr0 gr1 gr2 gr3 gs0 gs1 gs2 gs3:Int) (h:U64 ax0/\U64 ax1/\U64 ax2/\U64 ax3/\U64 ay0/\U64 ay1/\U64 ay2/\U64 ay3/\U64 gr0/\U64 gr1/\U64 gr2/\U64 gr3/\U64 gs0/\U64 gs1/\U64 gs2/\U64 gs3/\t.size<=140737488355328):VCECheck ax0 ax1 ax2 ax3 ay0 ay1 ay2 ay3 ai t gr0 gr1 gr2 gr3 gs0 gs1 gs2 gs3:=by
 obtain ⟨hax0,hax1,hax2,hax3,hay0,hay1,hay2,hay3,hgr0,hgr1,hgr2,hgr3,hgs0,hgs1,hgs2,hgs3,ht⟩:=h
 have eax0:U64 ax0=True:=eq_true hax0
 have eax1:U64 ax1=True:=eq_true hax1
 have eax2:U64 ax2=True:=eq_true hax2
 have eax3:U64 ax3=True:=eq_true hax3
 have eay0:U64 ay0=True:=eq_true hay0
 have eay1:U64 ay1=True:=eq_true hay1
 have eay2:U64 ay2=True:=eq_true hay2
 have eay3:U64 ay3=True:=eq_true hay3
 have egr0:U64 gr0=True:=eq_true hgr0
 have egr1:U64 gr1=True:=eq_true hgr1
 have egr2:U64 gr2=True:=eq_true hgr2
 have egr3:U64 gr3=True:=eq_true hgr3
 have egs0:U64 gs0=True:=eq_true hgs0
 have egs1:U64 gs1=True:=eq_true hgs1
 have egs2:U64 gs2=True:=eq_true hgs2
 have egs3:U64 gs3=True:=eq_true hgs3
 have et:(t.size<=140737488355328)=True:=eq_true ht
 obtain ⟨q0,q1,q2,q3⟩:=n2w
 have w0:U64 0=True:=eq_true U64_0
 have p0:U64 17562291160714782033=True:=eq_true q0
 have p1:U64 13611842547513532036=True:=eq_true q1
 have p2:U64 18446744073709551615=True:=eq_true q2
 have p3:U64 18446744069414584320=True:=eq_true q3
 have qe:∀ x,(limb (x%N2) 0==gr0&&(limb (x%N2) 1==gr1&&(limb (x%N2) 2==gr2&&(limb (x%N2) 3==gr3&&true))))=decide (x%N2=val4 gr0 gr1 gr2 gr3):=fun x=>by
  rw [eq4 (limb_in _ _) (limb_in _ _) (limb_in _ _) (limb_in _ _) hgr0 hgr1 hgr2 hgr3,lmN]
 unfold VCECheck
 simp only [forall_eq,ulP,eax0,eax1,eax2,eax3,eay0,eay1,eay2,eay3,egr0,egr1,egr2,egr3,egs0,egs1,egs2,egs3,et,w0,p0,p1,p2,p3,lcX,rF0,lnI,lbe,linv,qe,true_and]
 generalize val4 ax0 ax1 ax2 ax3=X at *
 generalize val4 ay0 ay1 ay2 ay3=Y at *
 generalize val4 gr0 gr1 gr2 gr3=R at *
 generalize val4 gs0 gs1 gs2 gs3=S at *
 unfold chE vkF
 by_cases z:(t.size:Int)=32
 ·cases ai<;>cases ho:onP X Y _<;>cases hr:secF R<;>cases hs:secF S<;>simp [z]
  generalize BF (nI (beF t) (invF S 115792089210356248762697446949407573529996955224135760342422259061068512044369)) (nI R (invF S 115792089210356248762697446949407573529996955224135760342422259061068512044369)) (pP X Y false)=A
  cases hb:cB A<;>by_cases hx:cX A%N2=R<;>simp [hx]
 ·cases ai<;>cases ho:onP X Y _<;>simp [z]
theorem eCheck_ok:SpecOk Tryz.prog 14 eCheckSpec:=by
 intro args k h
 unfold eCheckSpec at h
 split at h
 ·rename_i ax0 ax1 ax2 ax3 ay0 ay1 ay2 ay3 ai t gr0 gr1 gr2 gr3 gs0 gs1 gs2 gs3
  obtain ⟨hr,h⟩:=h
  exact ⟨_,h _ rfl,PureOk.of_tie (GC Tryz.prog ed2Spec) (fun w__=>gok w__ namesOk_ mixed_ ed2_ok) (fun _=>rfl) (fun _=>rfl) (args':=[.agg [.int .u64 (.sym ax0.val),.int .u64 (.sym ax1.val),.int .u64 (.sym ax2.val),.int .u64 (.sym ax3.val),.int .u64 (.sym ay0.val),.int .u64 (.sym ay1.val),.int .u64 (.sym ay2.val),.int .u64 (.sym ay3.val),.bool (.sym ai.val)],.str (.sym t.val),.agg [.int .u64 (.sym gr0.val),.int .u64 (.sym gr1.val),.int .u64 (.sym gr2.val),.int .u64 (.sym gr3.val),.int .u64 (.sym gs0.val),.int .u64 (.sym gs1.val),.int .u64 (.sym gs2.val),.int .u64 (.sym gs3.val)]]) ⟨⟨⟨rfl,rfl⟩,⟨rfl,rfl⟩,⟨rfl,rfl⟩,⟨rfl,rfl⟩,⟨rfl,rfl⟩,⟨rfl,rfl⟩,⟨rfl,rfl⟩,⟨rfl,rfl⟩,rfl,trivial⟩,rfl,⟨⟨rfl,rfl⟩,⟨rfl,rfl⟩,⟨rfl,rfl⟩,⟨rfl,rfl⟩,⟨rfl,rfl⟩,⟨rfl,rfl⟩,⟨rfl,rfl⟩,⟨rfl,rfl⟩,trivial⟩,trivial⟩ 60 (fun w__=>VCECheck ax0.val ax1.val ax2.val ax3.val ay0.val ay1.val ay2.val ay3.val ai.val t.val gr0.val gr1.val gr2.val gr3.val gs0.val gs1.val gs2.val gs3.val) (fun w__=>tieECheck w__ ax0.val ax1.val ax2.val ax3.val ay0.val ay1.val ay2.val ay3.val ai.val t.val gr0.val gr1.val gr2.val gr3.val gs0.val gs1.val gs2.val gs3.val) (fun w__=>pureECheck ax0.val ax1.val ax2.val ax3.val ay0.val ay1.val ay2.val ay3.val ai.val t.val gr0.val gr1.val gr2.val gr3.val gs0.val gs1.val gs2.val gs3.val hr)⟩
 ·exact h.elim

theorem cmp_ge (x y:Int):decide (cmpF x y>=0)=!decide (x<y):=cmp_nneg x y
def eLowSpec:CSpec
 | [.agg [.int .u64 gr0,.int .u64 gr1,.int .u64 gr2,.int .u64 gr3,.int .u64 gs0,.int .u64 gs1,.int .u64 gs2,.int .u64 gs3]],k=>((U64 gr0.val)/\(U64 gr1.val)/\(U64 gr2.val)/\(U64 gr3.val)/\(U64 gs0.val)/\(U64 gs1.val)/\(U64 gs2.val)/\(U64 gs3.val))/\(∀ r0:Int,r0=(gr0.val)->∀ r1:Int,r1=(gr1.val)->∀ r2:Int,r2=(gr2.val)->∀ r3:Int,r3=(gr3.val)->∀ r4:Int,r4=(loS (val4 gr0.val gr1.val gr2.val gr3.val) (val4 gs0.val gs1.val gs2.val gs3.val))->k (.agg [.int .u64 (.sym r0),.int .u64 (.sym r1),.int .u64 (.sym r2),.int .u64 (.sym r3),.int .u64 (.sym (limb r4 0)),.int .u64 (.sym (limb r4 1)),.int .u64 (.sym (limb r4 2)),.int .u64 (.sym (limb r4 3))]))
 | _,_=>False
def VCELow (gr0:Int) (gr1:Int) (gr2:Int) (gr3:Int) (gs0:Int) (gs1:Int) (gs2:Int) (gs3:Int):Prop :=
 (U64 gr0/\U64 gr1/\U64 gr2/\U64 gr3/\U64 17562291160714782033/\U64 13611842547513532036/\U64 18446744073709551615/\U64 18446744069414584320)/\∀ v1,v1=cmpF (val4 gr0 gr1 gr2 gr3) (115792089210356248762697446949407573529996955224135760342422259061068512044369:Int)->∀ v2,v2=decide (v1>=(0:Int))->(v2=false->(U64 gs0/\U64 gs1/\U64 gs2/\U64 gs3/\U64 17562291160714782033/\U64 13611842547513532036/\U64 18446744073709551615/\U64 18446744069414584320)/\∀ v3,v3=cmpF (val4 gs0 gs1 gs2 gs3) (115792089210356248762697446949407573529996955224135760342422259061068512044369:Int)->∀ v4,v4=decide (v3>=(0:Int))->(v4=true->(IntKind.u64=IntKind.u64/\gr0=gr0)/\(IntKind.u64=IntKind.u64/\gr1=gr1)/\(IntKind.u64=IntKind.u64/\gr2=gr2)/\(IntKind.u64=IntKind.u64/\gr3=gr3)/\(IntKind.u64=IntKind.u64/\gs0=limb (loS (val4 gr0 gr1 gr2 gr3) (val4 gs0 gs1 gs2 gs3)) 0)/\(IntKind.u64=IntKind.u64/\gs1=limb (loS (val4 gr0 gr1 gr2 gr3) (val4 gs0 gs1 gs2 gs3)) 1)/\(IntKind.u64=IntKind.u64/\gs2=limb (loS (val4 gr0 gr1 gr2 gr3) (val4 gs0 gs1 gs2 gs3)) 2)/\(IntKind.u64=IntKind.u64/\gs3=limb (loS (val4 gr0 gr1 gr2 gr3) (val4 gs0 gs1 gs2 gs3)) 3)/\True)/\(v4=false->(U64 0/\U64 0/\U64 0/\U64 0/\U64 gs0/\U64 gs1/\U64 gs2/\U64 gs3/\U64 17562291160714782033/\U64 13611842547513532036/\U64 18446744073709551615/\U64 18446744069414584320)/\∀ v5,v5=modF ((0:Int)-val4 gs0 gs1 gs2 gs3) (115792089210356248762697446949407573529996955224135760342422259061068512044369:Int)->(U64 (limb v5 0)/\U64 (limb v5 1)/\U64 (limb v5 2)/\U64 (limb v5 3)/\U64 gs0/\U64 gs1/\U64 gs2/\U64 gs3)/\∀ v6,v6=cmpF (val4 (limb v5 0) (limb v5 1) (limb v5 2) (limb v5 3)) (val4 gs0 gs1 gs2 gs3)->∀ v7,v7=decide (v6<(0:Int))->(v7=true->(IntKind.u64=IntKind.u64/\gr0=gr0)/\(IntKind.u64=IntKind.u64/\gr1=gr1)/\(IntKind.u64=IntKind.u64/\gr2=gr2)/\(IntKind.u64=IntKind.u64/\gr3=gr3)/\(IntKind.u64=IntKind.u64/\limb v5 0=limb (loS (val4 gr0 gr1 gr2 gr3) (val4 gs0 gs1 gs2 gs3)) 0)/\(IntKind.u64=IntKind.u64/\limb v5 1=limb (loS (val4 gr0 gr1 gr2 gr3) (val4 gs0 gs1 gs2 gs3)) 1)/\(IntKind.u64=IntKind.u64/\limb v5 2=limb (loS (val4 gr0 gr1 gr2 gr3) (val4 gs0 gs1 gs2 gs3)) 2)/\(IntKind.u64=IntKind.u64/\limb v5 3=limb (loS (val4 gr0 gr1 gr2 gr3) (val4 gs0 gs1 gs2 gs3)) 3)/\True)/\(v7=false->(IntKind.u64=IntKind.u64/\gr0=gr0)/\(IntKind.u64=IntKind.u64/\gr1=gr1)/\(IntKind.u64=IntKind.u64/\gr2=gr2)/\(IntKind.u64=IntKind.u64/\gr3=gr3)/\(IntKind.u64=IntKind.u64/\gs0=limb (loS (val4 gr0 gr1 gr2 gr3) (val4 gs0 gs1 gs2 gs3)) 0)/\(IntKind.u64=IntKind.u64/\gs1=limb (loS (val4 gr0 gr1 gr2 gr3) (val4 gs0 gs1 gs2 gs3)) 1)/\(IntKind.u64=IntKind.u64/\gs2=limb (loS (val4 gr0 gr1 gr2 gr3) (val4 gs0 gs1 gs2 gs3)) 2)/\(IntKind.u64=IntKind.u64/\gs3=limb (loS (val4 gr0 gr1 gr2 gr3) (val4 gs0 gs1 gs2 gs3)) 3)/\True)))/\(v2=true->(IntKind.u64=IntKind.u64/\gr0=gr0)/\(IntKind.u64=IntKind.u64/\gr1=gr1)/\(IntKind.u64=IntKind.u64/\gr2=gr2)/\(IntKind.u64=IntKind.u64/\gr3=gr3)/\(IntKind.u64=IntKind.u64/\gs0=limb (loS (val4 gr0 gr1 gr2 gr3) (val4 gs0 gs1 gs2 gs3)) 0)/\(IntKind.u64=IntKind.u64/\gs1=limb (loS (val4 gr0 gr1 gr2 gr3) (val4 gs0 gs1 gs2 gs3)) 1)/\(IntKind.u64=IntKind.u64/\gs2=limb (loS (val4 gr0 gr1 gr2 gr3) (val4 gs0 gs1 gs2 gs3)) 2)/\(IntKind.u64=IntKind.u64/\gs3=limb (loS (val4 gr0 gr1 gr2 gr3) (val4 gs0 gs1 gs2 gs3)) 3)/\True)
theorem tieELow (w0:World) (gr0:Int) (gr1:Int) (gr2:Int) (gr3:Int) (gs0:Int) (gs1:Int) (gs2:Int) (gs3:Int):VCELow gr0 gr1 gr2 gr3 gs0 gs1 gs2 gs3=((recN (GC Tryz.prog ed2Spec w0) 40).call 21 [.agg [.int .u64 (.sym gr0),.int .u64 (.sym gr1),.int .u64 (.sym gr2),.int .u64 (.sym gr3),.int .u64 (.sym gs0),.int .u64 (.sym gs1),.int .u64 (.sym gs2),.int .u64 (.sym gs3)]] [] (fun r__ _=>eqV r__ (.agg [.int .u64 (.sym (gr0)),.int .u64 (.sym (gr1)),.int .u64 (.sym (gr2)),.int .u64 (.sym (gr3)),.int .u64 (.sym (limb (loS (val4 gr0 gr1 gr2 gr3) (val4 gs0 gs1 gs2 gs3)) 0)),.int .u64 (.sym (limb (loS (val4 gr0 gr1 gr2 gr3) (val4 gs0 gs1 gs2 gs3)) 1)),.int .u64 (.sym (limb (loS (val4 gr0 gr1 gr2 gr3) (val4 gs0 gs1 gs2 gs3)) 2)),.int .u64 (.sym (limb (loS (val4 gr0 gr1 gr2 gr3) (val4 gs0 gs1 gs2 gs3)) 3))]))):=by kernel_rfl
theorem pureELow (gr0 gr1 gr2 gr3 gs0 gs1 gs2 gs3:Int) (h:U64 gr0/\U64 gr1/\U64 gr2/\U64 gr3/\U64 gs0/\U64 gs1/\U64 gs2/\U64 gs3):VCELow gr0 gr1 gr2 gr3 gs0 gs1 gs2 gs3:=by
 obtain ⟨hgr0,hgr1,hgr2,hgr3,hgs0,hgs1,hgs2,hgs3⟩:=h
 have egr0:U64 gr0=True:=eq_true hgr0
 have egr1:U64 gr1=True:=eq_true hgr1
 have egr2:U64 gr2=True:=eq_true hgr2
 have egr3:U64 gr3=True:=eq_true hgr3
 have egs0:U64 gs0=True:=eq_true hgs0
 have egs1:U64 gs1=True:=eq_true hgs1
 have egs2:U64 gs2=True:=eq_true hgs2
 have egs3:U64 gs3=True:=eq_true hgs3
 obtain ⟨q0,q1,q2,q3⟩:=n2w
 have w0:U64 0=True:=eq_true U64_0
 have p0:U64 17562291160714782033=True:=eq_true q0
 have p1:U64 13611842547513532036=True:=eq_true q1
 have p2:U64 18446744073709551615=True:=eq_true q2
 have p3:U64 18446744069414584320=True:=eq_true q3
 obtain ⟨l0,l1,l2,l3⟩:=limbs4' hgs0 hgs1 hgs2 hgs3
 unfold VCELow
 simp only [forall_eq,ulP,egr0,egr1,egr2,egr3,egs0,egs1,egs2,egs3,w0,p0,p1,p2,p3,modN2,lmN,cmp_lt,cmp_nneg,true_and]
 generalize val4 gr0 gr1 gr2 gr3=R at *
 generalize hS:val4 gs0 gs1 gs2 gs3=S at *
 by_cases c1:R<115792089210356248762697446949407573529996955224135760342422259061068512044369
 ·by_cases c2:S<115792089210356248762697446949407573529996955224135760342422259061068512044369
  ·by_cases c3:(0-S)%N2<S
   ·have e:loS R S=(0-S)%N2:=if_pos ⟨c1,c2,c3⟩
    simp only [e,decide_eq_true c1,decide_eq_true c2,decide_eq_true c3,Bool.false_eq_true,↓reduceIte,Bool.not_true,Bool.not_false,reduceCtorEq,false_implies,forall_const,true_and,and_true,and_self,l0,l1,l2,l3]
   ·have e:loS R S=S:=if_neg fun z=>c3 z.2.2
    simp only [e,decide_eq_true c1,decide_eq_true c2,decide_eq_false c3,Bool.false_eq_true,↓reduceIte,Bool.not_true,Bool.not_false,reduceCtorEq,false_implies,forall_const,true_and,and_true,and_self,l0,l1,l2,l3]
  ·have e:loS R S=S:=if_neg fun z=>c2 z.2.1
   simp only [e,decide_eq_true c1,decide_eq_false c2,Bool.false_eq_true,↓reduceIte,Bool.not_true,Bool.not_false,reduceCtorEq,false_implies,forall_const,true_and,and_true,and_self,l0,l1,l2,l3]
 ·have e:loS R S=S:=if_neg fun z=>c1 z.1
  simp only [e,decide_eq_false c1,Bool.false_eq_true,↓reduceIte,Bool.not_true,Bool.not_false,reduceCtorEq,false_implies,forall_const,true_and,and_true,and_self,l0,l1,l2,l3]
theorem eLow_ok:SpecOk Tryz.prog 21 eLowSpec:=by
 intro args k h
 unfold eLowSpec at h
 split at h
 ·rename_i gr0 gr1 gr2 gr3 gs0 gs1 gs2 gs3
  obtain ⟨hr,h⟩:=h
  exact ⟨_,h _ rfl _ rfl _ rfl _ rfl _ rfl,PureOk.of_tie (GC Tryz.prog ed2Spec) (fun w__=>gok w__ namesOk_ mixed_ ed2_ok) (fun _=>rfl) (fun _=>rfl) (args':=[.agg [.int .u64 (.sym gr0.val),.int .u64 (.sym gr1.val),.int .u64 (.sym gr2.val),.int .u64 (.sym gr3.val),.int .u64 (.sym gs0.val),.int .u64 (.sym gs1.val),.int .u64 (.sym gs2.val),.int .u64 (.sym gs3.val)]]) ⟨⟨⟨rfl,rfl⟩,⟨rfl,rfl⟩,⟨rfl,rfl⟩,⟨rfl,rfl⟩,⟨rfl,rfl⟩,⟨rfl,rfl⟩,⟨rfl,rfl⟩,⟨rfl,rfl⟩,trivial⟩,trivial⟩ 40 (fun w__=>VCELow gr0.val gr1.val gr2.val gr3.val gs0.val gs1.val gs2.val gs3.val) (fun w__=>tieELow w__ gr0.val gr1.val gr2.val gr3.val gs0.val gs1.val gs2.val gs3.val) (fun w__=>pureELow gr0.val gr1.val gr2.val gr3.val gs0.val gs1.val gs2.val gs3.val hr)⟩
 ·exact h.elim

end Go.Proofs.YtaaobpalpcdlbaaGreat.Bits
