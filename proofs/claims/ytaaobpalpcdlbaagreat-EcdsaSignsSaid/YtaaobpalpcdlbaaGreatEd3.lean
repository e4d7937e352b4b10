import Derived.Test.YtaaobpalpcdlbaaGreatSxR
import Derived.Test.YtaaobpalpcdlbaaGreatProg
import Derived.Test.YtaaobpalpcdlbaaGreatEd2
import Derived.Test.YtaaobpalpcdlbaaGreatEd4
import Derived.Test.YtaaobpalpcdlbaaGreatEd7
import Derived.KernelRfl
namespace Go.Proofs.YtaaobpalpcdlbaaGreat.Bits
open Go Go.Sx Go.RowKit Go.EC
set_option linter.unusedVariables false
set_option maxRecDepth 100000
def ed3Spec:List (FuncId×CSpec):=[(17,ePublicSpec),(19,eSignSpec),(14,eCheckSpec),(60,rBigSpec)]
theorem ed3_ok:SpecsOk Tryz.prog ed3Spec:=⟨ePublic_ok,eSign_ok,eCheck_ok,rBig_ok,trivial⟩
def zs:ByteArray:=bytesL [0,0,0,0,0,0,0,0,0,0,0,0,0,0,0,0,0,0,0,0,0,0,0,0,0,0,0,0,0,0,0,0]
def os:ByteArray:=bytesL [0,0,0,0,0,0,0,0,0,0,0,0,0,0,0,0,0,0,0,0,0,0,0,0,0,0,0,0,0,0,0,1]
theorem g1:QF 1=G256:=C256.mul_one _
theorem g1x:cX (QF 1)=48439561293906451759052585252797914202762949526041747995844080717082404635286:=by rw [g1]; decide +kernel
theorem g1y:cY (QF 1)=36134250956749795798585127919587881956611106672985015071877198253568414405109:=by rw [g1]; decide +kernel
theorem g1b:cB (QF 1)=false:=by rw [g1]; rfl
theorem kr1:krF 1=48439561293906451759052585252797914202762949526041747995844080717082404635286:=by unfold krF; rw [g1x]; decide +kernel
theorem inv1:invF 1 N2=1:=invF_eq (by decide) (by decide) ⟨0,by decide⟩
theorem be0:beF zs=0:=by decide +kernel
theorem be1:beF os=1:=by decide +kernel
theorem ks1:ksF 1 1 0=48439561293906451759052585252797914202762949526041747995844080717082404635286:=by
 unfold ksF
 rw [inv1,kr1]; decide +kernel
theorem sg1:sgE 1 1 zs=0:=by
 unfold sgE
 rw [be0,ks1,kr1]; decide +kernel
theorem sr1:sgR 1 1 zs=48439561293906451759052585252797914202762949526041747995844080717082404635286/\sgS 1 1 zs=48439561293906451759052585252797914202762949526041747995844080717082404635286:=by
 refine ⟨(if_pos sg1).trans kr1,(if_pos sg1).trans ?_⟩
 rw [be0]; exact ks1
theorem ch0:chE 48439561293906451759052585252797914202762949526041747995844080717082404635286 36134250956749795798585127919587881956611106672985015071877198253568414405109 false zs 48439561293906451759052585252797914202762949526041747995844080717082404635286 48439561293906451759052585252797914202762949526041747995844080717082404635286=0:=by
 have:=che_sign (D:=1) (K:=1) (t:=zs) (by decide) (by decide) sg1
 rwa [g1x,g1y,g1b,sr1.1,sr1.2] at this
theorem ch1:chE 48439561293906451759052585252797914202762949526041747995844080717082404635286 36134250956749795798585127919587881956611106672985015071877198253568414405109 false os 48439561293906451759052585252797914202762949526041747995844080717082404635286 48439561293906451759052585252797914202762949526041747995844080717082404635286=16:=by
 have:=che_other (D:=1) (K:=1) (t:=zs) (u:=os) (by decide) (by decide) sg1 (by decide +kernel) (by rw [be0,be1]; decide +kernel) (by rw [sr1.1]; decide +kernel) (by rw [be0,be1,sr1.1]; decide +kernel)
 rwa [g1x,g1y,g1b,sr1.1,sr1.2] at this
theorem ch2 (r s:Int):chE 48439561293906451759052585252797914202762949526041747995844080717082404635286 36134250956749795798585127919587881956611106672985015071877198253568414405109 false (bytesL []) r s=10:=by
 unfold chE
 rw [ex_on]; rfl
def awake5Spec:CSpec
 | [],k=>(True)/\(k (.bool (.lit true)))
 | _,_=>False
def VCAwake5:Prop :=
 (U64 0/\U64 0/\U64 0/\U64 0)/\∀ (v1:ByteArray),v1=bytesL [0,0,0,0,0,0,0,0,0,0,0,0,0,0,0,0,0,0,0,0,0,0,0,0,0,0,0,0,0,0,0,0]->(U64 1/\U64 0/\U64 0/\U64 0/\U64 1/\U64 0/\U64 0/\U64 0/\v1.size<=140737488355328)/\∀ v2,v2=sgR (1:Int) (1:Int) v1->∀ v3,v3=sgS (1:Int) (1:Int) v1->∀ v4,v4=sgE (1:Int) (1:Int) v1->(U64 1/\U64 0/\U64 0/\U64 0)/\∀ (v5:Int),v5=(48439561293906451759052585252797914202762949526041747995844080717082404635286:Int)->∀ (v6:Int),v6=(36134250956749795798585127919587881956611106672985015071877198253568414405109:Int)->∀ (v7:Bool),v7=false->∀ (v8:Int),v8=(0:Int)->∀ v9,v9=(v4==(0:Int))->(v9=true->∀ v10,v10=(v8==(0:Int))->(v10=true->∀ v11,v11=(limb v2 0==limb v3 0&&(limb v2 1==limb v3 1&&(limb v2 2==limb v3 2&&(limb v2 3==limb v3 3&&true))))->(v11=true->(U64 (limb v5 0)/\U64 (limb v5 1)/\U64 (limb v5 2)/\U64 (limb v5 3)/\U64 (limb v6 0)/\U64 (limb v6 1)/\U64 (limb v6 2)/\U64 (limb v6 3)/\U64 (limb v2 0)/\U64 (limb v2 1)/\U64 (limb v2 2)/\U64 (limb v2 3)/\U64 (limb v3 0)/\U64 (limb v3 1)/\U64 (limb v3 2)/\U64 (limb v3 3)/\v1.size<=140737488355328)/\∀ v12,v12=chE (val4 (limb v5 0) (limb v5 1) (limb v5 2) (limb v5 3)) (val4 (limb v6 0) (limb v6 1) (limb v6 2) (limb v6 3)) v7 v1 (val4 (limb v2 0) (limb v2 1) (limb v2 2) (limb v2 3)) (val4 (limb v3 0) (limb v3 1) (limb v3 2) (limb v3 3))->∀ v13,v13=(v12==(0:Int))->(v13=true->(U64 1/\U64 0/\U64 0/\U64 0)/\∀ (v14:ByteArray),v14=bytesL [0,0,0,0,0,0,0,0,0,0,0,0,0,0,0,0,0,0,0,0,0,0,0,0,0,0,0,0,0,0,0,1]->(U64 (limb v5 0)/\U64 (limb v5 1)/\U64 (limb v5 2)/\U64 (limb v5 3)/\U64 (limb v6 0)/\U64 (limb v6 1)/\U64 (limb v6 2)/\U64 (limb v6 3)/\U64 (limb v2 0)/\U64 (limb v2 1)/\U64 (limb v2 2)/\U64 (limb v2 3)/\U64 (limb v3 0)/\U64 (limb v3 1)/\U64 (limb v3 2)/\U64 (limb v3 3)/\v14.size<=140737488355328)/\∀ v15,v15=chE (val4 (limb v5 0) (limb v5 1) (limb v5 2) (limb v5 3)) (val4 (limb v6 0) (limb v6 1) (limb v6 2) (limb v6 3)) v7 v14 (val4 (limb v2 0) (limb v2 1) (limb v2 2) (limb v2 3)) (val4 (limb v3 0) (limb v3 1) (limb v3 2) (limb v3 3))->∀ v16,v16=(v15==(16:Int))->(v16=true->(U64 (limb v5 0)/\U64 (limb v5 1)/\U64 (limb v5 2)/\U64 (limb v5 3)/\U64 (limb v6 0)/\U64 (limb v6 1)/\U64 (limb v6 2)/\U64 (limb v6 3)/\U64 (limb v2 0)/\U64 (limb v2 1)/\U64 (limb v2 2)/\U64 (limb v2 3)/\U64 (limb v3 0)/\U64 (limb v3 1)/\U64 (limb v3 2)/\U64 (limb v3 3)/\0<=140737488355328)/\∀ v17,v17=chE (val4 (limb v5 0) (limb v5 1) (limb v5 2) (limb v5 3)) (val4 (limb v6 0) (limb v6 1) (limb v6 2) (limb v6 3)) v7 (bytesL []) (val4 (limb v2 0) (limb v2 1) (limb v2 2) (limb v2 3)) (val4 (limb v3 0) (limb v3 1) (limb v3 2) (limb v3 3))->∀ v18,v18=(v17==(10:Int))->v18=true)/\(v16=false->false=true))/\(v13=false->false=true))/\(v11=false->false=true))/\(v10=false->false=true))/\(v9=false->false=true)
theorem tieAwake5 (w0:World)  : VCAwake5  = ((recN (GC Tryz.prog ed3Spec w0) 60).call 16 [] [] (fun r__ _=>eqV r__ (.bool (.lit true)))):=by kernel_rfl
theorem pureAwake5 (h:True):VCAwake5:=by
 have L:∀ x j,U64 (limb x j)=True:=fun x j=>eq_true (limb_in x j)
 have w0:U64 0=True:=eq_true U64_0
 have w1:U64 1=True:=eq_true (by decide)
 have fz:bytesL [0,0,0,0,0,0,0,0,0,0,0,0,0,0,0,0,0,0,0,0,0,0,0,0,0,0,0,0,0,0,0,0]=zs:=rfl
 have fo:bytesL [0,0,0,0,0,0,0,0,0,0,0,0,0,0,0,0,0,0,0,0,0,0,0,0,0,0,0,0,0,0,0,1]=os:=rfl
 have sz:zs.size=32:=by decide +kernel
 have so:os.size=32:=by decide +kernel
 unfold VCAwake5
 simp only [forall_eq,L,w0,w1,fz,fo,sr1.1,sr1.2,sg1,lgx,lgy,ch0,ch1,ch2,sz,so,beq_self_eq_true,Bool.and_true,Nat.reduceLeDiff,reduceCtorEq,false_implies,forall_const,true_and,and_true,and_self]
theorem awake5_ok:SpecOk Tryz.prog 16 awake5Spec:=by
 intro args k h
 unfold awake5Spec at h
 split at h
 ·obtain ⟨hr,h⟩:=h
  exact ⟨_,h ,PureOk.of_tie (GC Tryz.prog ed3Spec) (fun w__=>gok w__ namesOk_ mixed_ ed3_ok) (fun _=>rfl) (fun _=>rfl) (args':=[]) trivial 60 (fun w__=>VCAwake5 ) (fun w__=>tieAwake5 w__ ) (fun w__=>pureAwake5  hr)⟩
 ·exact h.elim

end Go.Proofs.YtaaobpalpcdlbaaGreat.Bits
