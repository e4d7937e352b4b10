import Derived.Test.YtaaobpalpcdlbaaGreatSxR
import Derived.Test.YtaaobpalpcdlbaaGreatProg
import Derived.Test.YtaaobpalpcdlbaaGreatEcJ
import Derived.Test.YtaaobpalpcdlbaaGreatRef6
import Derived.Test.YtaaobpalpcdlbaaGreatPt10
import Derived.KernelRfl
import Derived.Test.YtaaobpalpcdlbaaGreatPt7
import Derived.Test.YtaaobpalpcdlbaaGreatPt15
import Derived.Test.YtaaobpalpcdlbaaGreatEd1
namespace Go.Proofs.YtaaobpalpcdlbaaGreat.Bits
open Go Go.Sx Go.RowKit Go.EC
set_option linter.unusedVariables false
set_option linter.unusedSimpArgs false
set_option maxRecDepth 100000
def raJ (i:Bool) (X Y:Int):Sol:=if i then (1,1,0) else (X,Y,1)
noncomputable def lwX (s:Sol):Int:=if s.2.2=0 then 0 else tI s.1 (tI (invF s.2.2 115792089210356248762697446949407573530086143415290314195533631308867097853951) (invF s.2.2 115792089210356248762697446949407573530086143415290314195533631308867097853951))
noncomputable def lwY (s:Sol):Int:=if s.2.2=0 then 0 else tI s.2.1 (tI (tI (invF s.2.2 115792089210356248762697446949407573530086143415290314195533631308867097853951) (invF s.2.2 115792089210356248762697446949407573530086143415290314195533631308867097853951)) (invF s.2.2 115792089210356248762697446949407573530086143415290314195533631308867097853951))
def rf1Spec:List (FuncId×CSpec):=[(26,rMul4Spec),(25,rAdd4Spec),(27,rSub4Spec),(56,r2InvSpec)]
theorem rf1_ok:SpecsOk Tryz.prog rf1Spec:=⟨rMul4_ok,rAdd4_ok,rSub4_ok,r2Inv_ok,trivial⟩
theorem tj_none {X Y Z:Int} (h:Z=0\/Y=0):twJ (X,Y,Z)=(1,1,0):=if_pos h
def rRaisedSpec:CSpec
 | [.agg [.int .u64 ax0,.int .u64 ax1,.int .u64 ax2,.int .u64 ax3,.int .u64 ay0,.int .u64 ay1,.int .u64 ay2,.int .u64 ay3,.bool ai]],k=>((U64 ax0.val)/\(U64 ax1.val)/\(U64 ax2.val)/\(U64 ax3.val)/\(U64 ay0.val)/\(U64 ay1.val)/\(U64 ay2.val)/\(U64 ay3.val))/\(∀ r0:Int,r0=((raJ ai.val (val4 ax0.val ax1.val ax2.val ax3.val) (val4 ay0.val ay1.val ay2.val ay3.val)).1)->∀ r1:Int,r1=((raJ ai.val (val4 ax0.val ax1.val ax2.val ax3.val) (val4 ay0.val ay1.val ay2.val ay3.val)).2.1)->∀ r2:Int,r2=((raJ ai.val (val4 ax0.val ax1.val ax2.val ax3.val) (val4 ay0.val ay1.val ay2.val ay3.val)).2.2)->k (.agg [.int .u64 (.sym (limb r0 0)),.int .u64 (.sym (limb r0 1)),.int .u64 (.sym (limb r0 2)),.int .u64 (.sym (limb r0 3)),.int .u64 (.sym (limb r1 0)),.int .u64 (.sym (limb r1 1)),.int .u64 (.sym (limb r1 2)),.int .u64 (.sym (limb r1 3)),.int .u64 (.sym (limb r2 0)),.int .u64 (.sym (limb r2 1)),.int .u64 (.sym (limb r2 2)),.int .u64 (.sym (limb r2 3))]))
 | _,_=>False
def VCRRaised (ax0:Int) (ax1:Int) (ax2:Int) (ax3:Int) (ay0:Int) (ay1:Int) (ay2:Int) (ay3:Int) (ai:Bool):Prop :=
 (ai=true->(IntKind.u64=IntKind.u64/\1=limb (raJ ai (val4 ax0 ax1 ax2 ax3) (val4 ay0 ay1 ay2 ay3)).fst 0)/\(IntKind.u64=IntKind.u64/\0=limb (raJ ai (val4 ax0 ax1 ax2 ax3) (val4 ay0 ay1 ay2 ay3)).fst 1)/\(IntKind.u64=IntKind.u64/\0=limb (raJ ai (val4 ax0 ax1 ax2 ax3) (val4 ay0 ay1 ay2 ay3)).fst 2)/\(IntKind.u64=IntKind.u64/\0=limb (raJ ai (val4 ax0 ax1 ax2 ax3) (val4 ay0 ay1 ay2 ay3)).fst 3)/\(IntKind.u64=IntKind.u64/\1=limb (raJ ai (val4 ax0 ax1 ax2 ax3) (val4 ay0 ay1 ay2 ay3)).snd.fst 0)/\(IntKind.u64=IntKind.u64/\0=limb (raJ ai (val4 ax0 ax1 ax2 ax3) (val4 ay0 ay1 ay2 ay3)).snd.fst 1)/\(IntKind.u64=IntKind.u64/\0=limb (raJ ai (val4 ax0 ax1 ax2 ax3) (val4 ay0 ay1 ay2 ay3)).snd.fst 2)/\(IntKind.u64=IntKind.u64/\0=limb (raJ ai (val4 ax0 ax1 ax2 ax3) (val4 ay0 ay1 ay2 ay3)).snd.fst 3)/\(IntKind.u64=IntKind.u64/\0=limb (raJ ai (val4 ax0 ax1 ax2 ax3) (val4 ay0 ay1 ay2 ay3)).snd.snd 0)/\(IntKind.u64=IntKind.u64/\0=limb (raJ ai (val4 ax0 ax1 ax2 ax3) (val4 ay0 ay1 ay2 ay3)).snd.snd 1)/\(IntKind.u64=IntKind.u64/\0=limb (raJ ai (val4 ax0 ax1 ax2 ax3) (val4 ay0 ay1 ay2 ay3)).snd.snd 2)/\(IntKind.u64=IntKind.u64/\0=limb (raJ ai (val4 ax0 ax1 ax2 ax3) (val4 ay0 ay1 ay2 ay3)).snd.snd 3)/\True)/\(ai=false->(IntKind.u64=IntKind.u64/\ax0=limb (raJ ai (val4 ax0 ax1 ax2 ax3) (val4 ay0 ay1 ay2 ay3)).fst 0)/\(IntKind.u64=IntKind.u64/\ax1=limb (raJ ai (val4 ax0 ax1 ax2 ax3) (val4 ay0 ay1 ay2 ay3)).fst 1)/\(IntKind.u64=IntKind.u64/\ax2=limb (raJ ai (val4 ax0 ax1 ax2 ax3) (val4 ay0 ay1 ay2 ay3)).fst 2)/\(IntKind.u64=IntKind.u64/\ax3=limb (raJ ai (val4 ax0 ax1 ax2 ax3) (val4 ay0 ay1 ay2 ay3)).fst 3)/\(IntKind.u64=IntKind.u64/\ay0=limb (raJ ai (val4 ax0 ax1 ax2 ax3) (val4 ay0 ay1 ay2 ay3)).snd.fst 0)/\(IntKind.u64=IntKind.u64/\ay1=limb (raJ ai (val4 ax0 ax1 ax2 ax3) (val4 ay0 ay1 ay2 ay3)).snd.fst 1)/\(IntKind.u64=IntKind.u64/\ay2=limb (raJ ai (val4 ax0 ax1 ax2 ax3) (val4 ay0 ay1 ay2 ay3)).snd.fst 2)/\(IntKind.u64=IntKind.u64/\ay3=limb (raJ ai (val4 ax0 ax1 ax2 ax3) (val4 ay0 ay1 ay2 ay3)).snd.fst 3)/\(IntKind.u64=IntKind.u64/\1=limb (raJ ai (val4 ax0 ax1 ax2 ax3) (val4 ay0 ay1 ay2 ay3)).snd.snd 0)/\(IntKind.u64=IntKind.u64/\0=limb (raJ ai (val4 ax0 ax1 ax2 ax3) (val4 ay0 ay1 ay2 ay3)).snd.snd 1)/\(IntKind.u64=IntKind.u64/\0=limb (raJ ai (val4 ax0 ax1 ax2 ax3) (val4 ay0 ay1 ay2 ay3)).snd.snd 2)/\(IntKind.u64=IntKind.u64/\0=limb (raJ ai (val4 ax0 ax1 ax2 ax3) (val4 ay0 ay1 ay2 ay3)).snd.snd 3)/\True)
theorem tieRRaised (w0:World) (ax0:Int) (ax1:Int) (ax2:Int) (ax3:Int) (ay0:Int) (ay1:Int) (ay2:Int) (ay3:Int) (ai:Bool):VCRRaised ax0 ax1 ax2 ax3 ay0 ay1 ay2 ay3 ai=((recN (GC Tryz.prog rf1Spec w0) 40).call 42 [.agg [.int .u64 (.sym ax0),.int .u64 (.sym ax1),.int .u64 (.sym ax2),.int .u64 (.sym ax3),.int .u64 (.sym ay0),.int .u64 (.sym ay1),.int .u64 (.sym ay2),.int .u64 (.sym ay3),.bool (.sym ai)]] [] (fun r__ _=>eqV r__ (.agg [.int .u64 (.sym (limb ((raJ ai (val4 ax0 ax1 ax2 ax3) (val4 ay0 ay1 ay2 ay3)).1) 0)),.int .u64 (.sym (limb ((raJ ai (val4 ax0 ax1 ax2 ax3) (val4 ay0 ay1 ay2 ay3)).1) 1)),.int .u64 (.sym (limb ((raJ ai (val4 ax0 ax1 ax2 ax3) (val4 ay0 ay1 ay2 ay3)).1) 2)),.int .u64 (.sym (limb ((raJ ai (val4 ax0 ax1 ax2 ax3) (val4 ay0 ay1 ay2 ay3)).1) 3)),.int .u64 (.sym (limb ((raJ ai (val4 ax0 ax1 ax2 ax3) (val4 ay0 ay1 ay2 ay3)).2.1) 0)),.int .u64 (.sym (limb ((raJ ai (val4 ax0 ax1 ax2 ax3) (val4 ay0 ay1 ay2 ay3)).2.1) 1)),.int .u64 (.sym (limb ((raJ ai (val4 ax0 ax1 ax2 ax3) (val4 ay0 ay1 ay2 ay3)).2.1) 2)),.int .u64 (.sym (limb ((raJ ai (val4 ax0 ax1 ax2 ax3) (val4 ay0 ay1 ay2 ay3)).2.1) 3)),.int .u64 (.sym (limb ((raJ ai (val4 ax0 ax1 ax2 ax3) (val4 ay0 ay1 ay2 ay3)).2.2) 0)),.int .u64 (.sym (limb ((raJ ai (val4 ax0 ax1 ax2 ax3) (val4 ay0 ay1 ay2 ay3)).2.2) 1)),.int .u64 (.sym (limb ((raJ ai (val4 ax0 ax1 ax2 ax3) (val4 ay0 ay1 ay2 ay3)).2.2) 2)),.int .u64 (.sym (limb ((raJ ai (val4 ax0 ax1 ax2 ax3) (val4 ay0 ay1 ay2 ay3)).2.2) 3))]))):=by kernel_rfl
theorem pureRRaised (ax0 ax1 ax2 ax3 ay0 ay1 ay2 ay3:Int) (ai:Bool) (h:U64 ax0/\U64 ax1/\U64 ax2/\U64 ax3/\U64 ay0/\U64 ay1/\U64 ay2/\U64 ay3):VCRRaised ax0 ax1 ax2 ax3 ay0 ay1 ay2 ay3 ai:=by
 obtain ⟨hax0,hax1,hax2,hax3,hay0,hay1,hay2,hay3⟩:=h
 obtain ⟨lax0,lax1,lax2,lax3⟩:=limbs4' hax0 hax1 hax2 hax3
 obtain ⟨lay0,lay1,lay2,lay3⟩:=limbs4' hay0 hay1 hay2 hay3
 refine ⟨fun e=>?_,fun e=>?_⟩
 ·subst e
  have e:raJ true (val4 ax0 ax1 ax2 ax3) (val4 ay0 ay1 ay2 ay3)=(1,1,0):=rfl
  rw [e]; decide +kernel
 ·subst e
  have e:raJ false (val4 ax0 ax1 ax2 ax3) (val4 ay0 ay1 ay2 ay3)=(val4 ax0 ax1 ax2 ax3,val4 ay0 ay1 ay2 ay3,1):=rfl
  rw [e]
  exact ⟨⟨rfl,lax0.symm⟩,⟨rfl,lax1.symm⟩,⟨rfl,lax2.symm⟩,⟨rfl,lax3.symm⟩,⟨rfl,lay0.symm⟩,⟨rfl,lay1.symm⟩,⟨rfl,lay2.symm⟩,⟨rfl,lay3.symm⟩,⟨rfl,lp1.1⟩,⟨rfl,lp1.2.1⟩,⟨rfl,lp1.2.2.1⟩,⟨rfl,lp1.2.2.2⟩,trivial⟩
theorem rRaised_ok:SpecOk Tryz.prog 42 rRaisedSpec:=by
 intro args k h
 unfold rRaisedSpec at h
 split at h
 ·rename_i ax0 ax1 ax2 ax3 ay0 ay1 ay2 ay3 ai
  obtain ⟨hr,h⟩:=h
  exact ⟨_,h _ rfl _ rfl _ rfl,PureOk.of_tie (GC Tryz.prog rf1Spec) (fun w__=>gok w__ namesOk_ mixed_ rf1_ok) (fun _=>rfl) (fun _=>rfl) (args':=[.agg [.int .u64 (.sym ax0.val),.int .u64 (.sym ax1.val),.int .u64 (.sym ax2.val),.int .u64 (.sym ax3.val),.int .u64 (.sym ay0.val),.int .u64 (.sym ay1.val),.int .u64 (.sym ay2.val),.int .u64 (.sym ay3.val),.bool (.sym ai.val)]]) ⟨⟨⟨rfl,rfl⟩,⟨rfl,rfl⟩,⟨rfl,rfl⟩,⟨rfl,rfl⟩,⟨rfl,rfl⟩,⟨rfl,rfl⟩,⟨rfl,rfl⟩,⟨rfl,rfl⟩,rfl,trivial⟩,trivial⟩ 40 (fun w__=>VCRRaised ax0.val ax1.val ax2.val ax3.val ay0.val ay1.val ay2.val ay3.val ai.val) (fun w__=>tieRRaised w__ ax0.val ax1.val ax2.val ax3.val ay0.val ay1.val ay2.val ay3.val ai.val) (fun w__=>pureRRaised ax0.val ax1.val ax2.val ax3.val ay0.val ay1.val ay2.val ay3.val ai.val hr)⟩
 ·exact h.elim

def rTwiceSpec:CSpec
 | [.agg [.int .u64 ax0,.int .u64 ax1,.int .u64 ax2,.int .u64 ax3,.int .u64 ay0,.int .u64 ay1,.int .u64 ay2,.int .u64 ay3,.int .u64 az0,.int .u64 az1,.int .u64 az2,.int .u64 az3]],k=>((U64 ax0.val)/\(U64 ax1.val)/\(U64 ax2.val)/\(U64 ax3.val)/\(U64 ay0.val)/\(U64 ay1.val)/\(U64 ay2.val)/\(U64 ay3.val)/\(U64 az0.val)/\(U64 az1.val)/\(U64 az2.val)/\(U64 az3.val))/\(∀ r0:Int,r0=((twJ (val4 ax0.val ax1.val ax2.val ax3.val,val4 ay0.val ay1.val ay2.val ay3.val,val4 az0.val az1.val az2.val az3.val)).1)->∀ r1:Int,r1=((twJ (val4 ax0.val ax1.val ax2.val ax3.val,val4 ay0.val ay1.val ay2.val ay3.val,val4 az0.val az1.val az2.val az3.val)).2.1)->∀ r2:Int,r2=((twJ (val4 ax0.val ax1.val ax2.val ax3.val,val4 ay0.val ay1.val ay2.val ay3.val,val4 az0.val az1.val az2.val az3.val)).2.2)->k (.agg [.int .u64 (.sym (limb r0 0)),.int .u64 (.sym (limb r0 1)),.int .u64 (.sym (limb r0 2)),.int .u64 (.sym (limb r0 3)),.int .u64 (.sym (limb r1 0)),.int .u64 (.sym (limb r1 1)),.int .u64 (.sym (limb r1 2)),.int .u64 (.sym (limb r1 3)),.int .u64 (.sym (limb r2 0)),.int .u64 (.sym (limb r2 1)),.int .u64 (.sym (limb r2 2)),.int .u64 (.sym (limb r2 3))]))
 | _,_=>False
def VCRTwice (ax0:Int) (ax1:Int) (ax2:Int) (ax3:Int) (ay0:Int) (ay1:Int) (ay2:Int) (ay3:Int) (az0:Int) (az1:Int) (az2:Int) (az3:Int):Prop :=
 ∀ v1,v1=(az0==(0:Int)&&(az1==(0:Int)&&(az2==(0:Int)&&(az3==(0:Int)&&true))))->(v1=false->∀ v2,v2=(ay0==(0:Int)&&(ay1==(0:Int)&&(ay2==(0:Int)&&(ay3==(0:Int)&&true))))->(v2=true->(IntKind.u64=IntKind.u64/\1=limb (twJ (val4 ax0 ax1 ax2 ax3,val4 ay0 ay1 ay2 ay3,val4 az0 az1 az2 az3)).fst 0)/\(IntKind.u64=IntKind.u64/\0=limb (twJ (val4 ax0 ax1 ax2 ax3,val4 ay0 ay1 ay2 ay3,val4 az0 az1 az2 az3)).fst 1)/\(IntKind.u64=IntKind.u64/\0=limb (twJ (val4 ax0 ax1 ax2 ax3,val4 ay0 ay1 ay2 ay3,val4 az0 az1 az2 az3)).fst 2)/\(IntKind.u64=IntKind.u64/\0=limb (twJ (val4 ax0 ax1 ax2 ax3,val4 ay0 ay1 ay2 ay3,val4 az0 az1 az2 az3)).fst 3)/\(IntKind.u64=IntKind.u64/\1=limb (twJ (val4 ax0 ax1 ax2 ax3,val4 ay0 ay1 ay2 ay3,val4 az0 az1 az2 az3)).snd.fst 0)/\(IntKind.u64=IntKind.u64/\0=limb (twJ (val4 ax0 ax1 ax2 ax3,val4 ay0 ay1 ay2 ay3,val4 az0 az1 az2 az3)).snd.fst 1)/\(IntKind.u64=IntKind.u64/\0=limb (twJ (val4 ax0 ax1 ax2 ax3,val4 ay0 ay1 ay2 ay3,val4 az0 az1 az2 az3)).snd.fst 2)/\(IntKind.u64=IntKind.u64/\0=limb (twJ (val4 ax0 ax1 ax2 ax3,val4 ay0 ay1 ay2 ay3,val4 az0 az1 az2 az3)).snd.fst 3)/\(IntKind.u64=IntKind.u64/\0=limb (twJ (val4 ax0 ax1 ax2 ax3,val4 ay0 ay1 ay2 ay3,val4 az0 az1 az2 az3)).snd.snd 0)/\(IntKind.u64=IntKind.u64/\0=limb (twJ (val4 ax0 ax1 ax2 ax3,val4 ay0 ay1 ay2 ay3,val4 az0 az1 az2 az3)).snd.snd 1)/\(IntKind.u64=IntKind.u64/\0=limb (twJ (val4 ax0 ax1 ax2 ax3,val4 ay0 ay1 ay2 ay3,val4 az0 az1 az2 az3)).snd.snd 2)/\(IntKind.u64=IntKind.u64/\0=limb (twJ (val4 ax0 ax1 ax2 ax3,val4 ay0 ay1 ay2 ay3,val4 az0 az1 az2 az3)).snd.snd 3)/\True)/\(v2=false->(U64 az0/\U64 az1/\U64 az2/\U64 az3/\U64 az0/\U64 az1/\U64 az2/\U64 az3)/\∀ v3,v3=tI (val4 az0 az1 az2 az3) (val4 az0 az1 az2 az3)->(U64 ay0/\U64 ay1/\U64 ay2/\U64 ay3/\U64 ay0/\U64 ay1/\U64 ay2/\U64 ay3)/\∀ v4,v4=tI (val4 ay0 ay1 ay2 ay3) (val4 ay0 ay1 ay2 ay3)->(U64 ax0/\U64 ax1/\U64 ax2/\U64 ax3/\U64 (limb v4 0)/\U64 (limb v4 1)/\U64 (limb v4 2)/\U64 (limb v4 3))/\∀ v5,v5=tI (val4 ax0 ax1 ax2 ax3) (val4 (limb v4 0) (limb v4 1) (limb v4 2) (limb v4 3))->(U64 4/\U64 0/\U64 0/\U64 0/\U64 (limb v5 0)/\U64 (limb v5 1)/\U64 (limb v5 2)/\U64 (limb v5 3))/\∀ v6,v6=tI (4:Int) (val4 (limb v5 0) (limb v5 1) (limb v5 2) (limb v5 3))->(U64 ax0/\U64 ax1/\U64 ax2/\U64 ax3/\U64 (limb v3 0)/\U64 (limb v3 1)/\U64 (limb v3 2)/\U64 (limb v3 3))/\∀ v7,v7=sI (val4 ax0 ax1 ax2 ax3) (val4 (limb v3 0) (limb v3 1) (limb v3 2) (limb v3 3))->(U64 ax0/\U64 ax1/\U64 ax2/\U64 ax3/\U64 (limb v3 0)/\U64 (limb v3 1)/\U64 (limb v3 2)/\U64 (limb v3 3))/\∀ v8,v8=aI (val4 ax0 ax1 ax2 ax3) (val4 (limb v3 0) (limb v3 1) (limb v3 2) (limb v3 3))->(U64 (limb v7 0)/\U64 (limb v7 1)/\U64 (limb v7 2)/\U64 (limb v7 3)/\U64 (limb v8 0)/\U64 (limb v8 1)/\U64 (limb v8 2)/\U64 (limb v8 3))/\∀ v9,v9=tI (val4 (limb v7 0) (limb v7 1) (limb v7 2) (limb v7 3)) (val4 (limb v8 0) (limb v8 1) (limb v8 2) (limb v8 3))->(U64 3/\U64 0/\U64 0/\U64 0/\U64 (limb v9 0)/\U64 (limb v9 1)/\U64 (limb v9 2)/\U64 (limb v9 3))/\∀ v10,v10=tI (3:Int) (val4 (limb v9 0) (limb v9 1) (limb v9 2) (limb v9 3))->(U64 (limb v10 0)/\U64 (limb v10 1)/\U64 (limb v10 2)/\U64 (limb v10 3)/\U64 (limb v10 0)/\U64 (limb v10 1)/\U64 (limb v10 2)/\U64 (limb v10 3))/\∀ v11,v11=tI (val4 (limb v10 0) (limb v10 1) (limb v10 2) (limb v10 3)) (val4 (limb v10 0) (limb v10 1) (limb v10 2) (limb v10 3))->(U64 (limb v6 0)/\U64 (limb v6 1)/\U64 (limb v6 2)/\U64 (limb v6 3)/\U64 (limb v6 0)/\U64 (limb v6 1)/\U64 (limb v6 2)/\U64 (limb v6 3))/\∀ v12,v12=aI (val4 (limb v6 0) (limb v6 1) (limb v6 2) (limb v6 3)) (val4 (limb v6 0) (limb v6 1) (limb v6 2) (limb v6 3))->(U64 (limb v11 0)/\U64 (limb v11 1)/\U64 (limb v11 2)/\U64 (limb v11 3)/\U64 (limb v12 0)/\U64 (limb v12 1)/\U64 (limb v12 2)/\U64 (limb v12 3))/\∀ v13,v13=sI (val4 (limb v11 0) (limb v11 1) (limb v11 2) (limb v11 3)) (val4 (limb v12 0) (limb v12 1) (limb v12 2) (limb v12 3))->(U64 (limb v6 0)/\U64 (limb v6 1)/\U64 (limb v6 2)/\U64 (limb v6 3)/\U64 (limb v13 0)/\U64 (limb v13 1)/\U64 (limb v13 2)/\U64 (limb v13 3))/\∀ v14,v14=sI (val4 (limb v6 0) (limb v6 1) (limb v6 2) (limb v6 3)) (val4 (limb v13 0) (limb v13 1) (limb v13 2) (limb v13 3))->(U64 (limb v10 0)/\U64 (limb v10 1)/\U64 (limb v10 2)/\U64 (limb v10 3)/\U64 (limb v14 0)/\U64 (limb v14 1)/\U64 (limb v14 2)/\U64 (limb v14 3))/\∀ v15,v15=tI (val4 (limb v10 0) (limb v10 1) (limb v10 2) (limb v10 3)) (val4 (limb v14 0) (limb v14 1) (limb v14 2) (limb v14 3))->(U64 (limb v4 0)/\U64 (limb v4 1)/\U64 (limb v4 2)/\U64 (limb v4 3)/\U64 (limb v4 0)/\U64 (limb v4 1)/\U64 (limb v4 2)/\U64 (limb v4 3))/\∀ v16,v16=tI (val4 (limb v4 0) (limb v4 1) (limb v4 2) (limb v4 3)) (val4 (limb v4 0) (limb v4 1) (limb v4 2) (limb v4 3))->(U64 8/\U64 0/\U64 0/\U64 0/\U64 (limb v16 0)/\U64 (limb v16 1)/\U64 (limb v16 2)/\U64 (limb v16 3))/\∀ v17,v17=tI (8:Int) (val4 (limb v16 0) (limb v16 1) (limb v16 2) (limb v16 3))->(U64 (limb v15 0)/\U64 (limb v15 1)/\U64 (limb v15 2)/\U64 (limb v15 3)/\U64 (limb v17 0)/\U64 (limb v17 1)/\U64 (limb v17 2)/\U64 (limb v17 3))/\∀ v18,v18=sI (val4 (limb v15 0) (limb v15 1) (limb v15 2) (limb v15 3)) (val4 (limb v17 0) (limb v17 1) (limb v17 2) (limb v17 3))->(U64 ay0/\U64 ay1/\U64 ay2/\U64 ay3/\U64 az0/\U64 az1/\U64 az2/\U64 az3)/\∀ v19,v19=tI (val4 ay0 ay1 ay2 ay3) (val4 az0 az1 az2 az3)->(U64 2/\U64 0/\U64 0/\U64 0/\U64 (limb v19 0)/\U64 (limb v19 1)/\U64 (limb v19 2)/\U64 (limb v19 3))/\∀ v20,v20=tI (2:Int) (val4 (limb v19 0) (limb v19 1) (limb v19 2) (limb v19 3))->(IntKind.u64=IntKind.u64/\limb v13 0=limb (twJ (val4 ax0 ax1 ax2 ax3,val4 ay0 ay1 ay2 ay3,val4 az0 az1 az2 az3)).fst 0)/\(IntKind.u64=IntKind.u64/\limb v13 1=limb (twJ (val4 ax0 ax1 ax2 ax3,val4 ay0 ay1 ay2 ay3,val4 az0 az1 az2 az3)).fst 1)/\(IntKind.u64=IntKind.u64/\limb v13 2=limb (twJ (val4 ax0 ax1 ax2 ax3,val4 ay0 ay1 ay2 ay3,val4 az0 az1 az2 az3)).fst 2)/\(IntKind.u64=IntKind.u64/\limb v13 3=limb (twJ (val4 ax0 ax1 ax2 ax3,val4 ay0 ay1 ay2 ay3,val4 az0 az1 az2 az3)).fst 3)/\(IntKind.u64=IntKind.u64/\limb v18 0=limb (twJ (val4 ax0 ax1 ax2 ax3,val4 ay0 ay1 ay2 ay3,val4 az0 az1 az2 az3)).snd.fst 0)/\(IntKind.u64=IntKind.u64/\limb v18 1=limb (twJ (val4 ax0 ax1 ax2 ax3,val4 ay0 ay1 ay2 ay3,val4 az0 az1 az2 az3)).snd.fst 1)/\(IntKind.u64=IntKind.u64/\limb v18 2=limb (twJ (val4 ax0 ax1 ax2 ax3,val4 ay0 ay1 ay2 ay3,val4 az0 az1 az2 az3)).snd.fst 2)/\(IntKind.u64=IntKind.u64/\limb v18 3=limb (twJ (val4 ax0 ax1 ax2 ax3,val4 ay0 ay1 ay2 ay3,val4 az0 az1 az2 az3)).snd.fst 3)/\(IntKind.u64=IntKind.u64/\limb v20 0=limb (twJ (val4 ax0 ax1 ax2 ax3,val4 ay0 ay1 ay2 ay3,val4 az0 az1 az2 az3)).snd.snd 0)/\(IntKind.u64=IntKind.u64/\limb v20 1=limb (twJ (val4 ax0 ax1 ax2 ax3,val4 ay0 ay1 ay2 ay3,val4 az0 az1 az2 az3)).snd.snd 1)/\(IntKind.u64=IntKind.u64/\limb v20 2=limb (twJ (val4 ax0 ax1 ax2 ax3,val4 ay0 ay1 ay2 ay3,val4 az0 az1 az2 az3)).snd.snd 2)/\(IntKind.u64=IntKind.u64/\limb v20 3=limb (twJ (val4 ax0 ax1 ax2 ax3,val4 ay0 ay1 ay2 ay3,val4 az0 az1 az2 az3)).snd.snd 3)/\True))/\(v1=true->(IntKind.u64=IntKind.u64/\1=limb (twJ (val4 ax0 ax1 ax2 ax3,val4 ay0 ay1 ay2 ay3,val4 az0 az1 az2 az3)).fst 0)/\(IntKind.u64=IntKind.u64/\0=limb (twJ (val4 ax0 ax1 ax2 ax3,val4 ay0 ay1 ay2 ay3,val4 az0 az1 az2 az3)).fst 1)/\(IntKind.u64=IntKind.u64/\0=limb (twJ (val4 ax0 ax1 ax2 ax3,val4 ay0 ay1 ay2 ay3,val4 az0 az1 az2 az3)).fst 2)/\(IntKind.u64=IntKind.u64/\0=limb (twJ (val4 ax0 ax1 ax2 ax3,val4 ay0 ay1 ay2 ay3,val4 az0 az1 az2 az3)).fst 3)/\(IntKind.u64=IntKind.u64/\1=limb (twJ (val4 ax0 ax1 ax2 ax3,val4 ay0 ay1 ay2 ay3,val4 az0 az1 az2 az3)).snd.fst 0)/\(IntKind.u64=IntKind.u64/\0=limb (twJ (val4 ax0 ax1 ax2 ax3,val4 ay0 ay1 ay2 ay3,val4 az0 az1 az2 az3)).snd.fst 1)/\(IntKind.u64=IntKind.u64/\0=limb (twJ (val4 ax0 ax1 ax2 ax3,val4 ay0 ay1 ay2 ay3,val4 az0 az1 az2 az3)).snd.fst 2)/\(IntKind.u64=IntKind.u64/\0=limb (twJ (val4 ax0 ax1 ax2 ax3,val4 ay0 ay1 ay2 ay3,val4 az0 az1 az2 az3)).snd.fst 3)/\(IntKind.u64=IntKind.u64/\0=limb (twJ (val4 ax0 ax1 ax2 ax3,val4 ay0 ay1 ay2 ay3,val4 az0 az1 az2 az3)).snd.snd 0)/\(IntKind.u64=IntKind.u64/\0=limb (twJ (val4 ax0 ax1 ax2 ax3,val4 ay0 ay1 ay2 ay3,val4 az0 az1 az2 az3)).snd.snd 1)/\(IntKind.u64=IntKind.u64/\0=limb (twJ (val4 ax0 ax1 ax2 ax3,val4 ay0 ay1 ay2 ay3,val4 az0 az1 az2 az3)).snd.snd 2)/\(IntKind.u64=IntKind.u64/\0=limb (twJ (val4 ax0 ax1 ax2 ax3,val4 ay0 ay1 ay2 ay3,val4 az0 az1 az2 az3)).snd.snd 3)/\True)
theorem tieRTwice (w0:World) (ax0:Int) (ax1:Int) (ax2:Int) (ax3:Int) (ay0:Int) (ay1:Int) (ay2:Int) (ay3:Int) (az0:Int) (az1:Int) (az2:Int) (az3:Int):VCRTwice ax0 ax1 ax2 ax3 ay0 ay1 ay2 ay3 az0 az1 az2 az3=((recN (GC Tryz.prog rf1Spec w0) 40).call 79 [.agg [.int .u64 (.sym ax0),.int .u64 (.sym ax1),.int .u64 (.sym ax2),.int .u64 (.sym ax3),.int .u64 (.sym ay0),.int .u64 (.sym ay1),.int .u64 (.sym ay2),.int .u64 (.sym ay3),.int .u64 (.sym az0),.int .u64 (.sym az1),.int .u64 (.sym az2),.int .u64 (.sym az3)]] [] (fun r__ _=>eqV r__ (.agg [.int .u64 (.sym (limb ((twJ (val4 ax0 ax1 ax2 ax3,val4 ay0 ay1 ay2 ay3,val4 az0 az1 az2 az3)).1) 0)),.int .u64 (.sym (limb ((twJ (val4 ax0 ax1 ax2 ax3,val4 ay0 ay1 ay2 ay3,val4 az0 az1 az2 az3)).1) 1)),.int .u64 (.sym (limb ((twJ (val4 ax0 ax1 ax2 ax3,val4 ay0 ay1 ay2 ay3,val4 az0 az1 az2 az3)).1) 2)),.int .u64 (.sym (limb ((twJ (val4 ax0 ax1 ax2 ax3,val4 ay0 ay1 ay2 ay3,val4 az0 az1 az2 az3)).1) 3)),.int .u64 (.sym (limb ((twJ (val4 ax0 ax1 ax2 ax3,val4 ay0 ay1 ay2 ay3,val4 az0 az1 az2 az3)).2.1) 0)),.int .u64 (.sym (limb ((twJ (val4 ax0 ax1 ax2 ax3,val4 ay0 ay1 ay2 ay3,val4 az0 az1 az2 az3)).2.1) 1)),.int .u64 (.sym (limb ((twJ (val4 ax0 ax1 ax2 ax3,val4 ay0 ay1 ay2 ay3,val4 az0 az1 az2 az3)).2.1) 2)),.int .u64 (.sym (limb ((twJ (val4 ax0 ax1 ax2 ax3,val4 ay0 ay1 ay2 ay3,val4 az0 az1 az2 az3)).2.1) 3)),.int .u64 (.sym (limb ((twJ (val4 ax0 ax1 ax2 ax3,val4 ay0 ay1 ay2 ay3,val4 az0 az1 az2 az3)).2.2) 0)),.int .u64 (.sym (limb ((twJ (val4 ax0 ax1 ax2 ax3,val4 ay0 ay1 ay2 ay3,val4 az0 az1 az2 az3)).2.2) 1)),.int .u64 (.sym (limb ((twJ (val4 ax0 ax1 ax2 ax3,val4 ay0 ay1 ay2 ay3,val4 az0 az1 az2 az3)).2.2) 2)),.int .u64 (.sym (limb ((twJ (val4 ax0 ax1 ax2 ax3,val4 ay0 ay1 ay2 ay3,val4 az0 az1 az2 az3)).2.2) 3))]))):=by kernel_rfl
theorem pureRTwice (ax0 ax1 ax2 ax3 ay0 ay1 ay2 ay3 az0 az1 az2 az3:Int) (h:U64 ax0/\U64 ax1/\U64 ax2/\U64 ax3/\U64 ay0/\U64 ay1/\U64 ay2/\U64 ay3/\U64 az0/\U64 az1/\U64 az2/\U64 az3):VCRTwice ax0 ax1 ax2 ax3 ay0 ay1 ay2 ay3 az0 az1 az2 az3:=by
 obtain ⟨hax0,hax1,hax2,hax3,hay0,hay1,hay2,hay3,haz0,haz1,haz2,haz3⟩:=h
 have eax0:U64 ax0=True:=eq_true hax0
 have eax1:U64 ax1=True:=eq_true hax1
 have eax2:U64 ax2=True:=eq_true hax2
 have eax3:U64 ax3=True:=eq_true hax3
 have eay0:U64 ay0=True:=eq_true hay0
 have eay1:U64 ay1=True:=eq_true hay1
 have eay2:U64 ay2=True:=eq_true hay2
 have eay3:U64 ay3=True:=eq_true hay3
 have eaz0:U64 az0=True:=eq_true haz0
 have eaz1:U64 az1=True:=eq_true haz1
 have eaz2:U64 az2=True:=eq_true haz2
 have eaz3:U64 az3=True:=eq_true haz3
 have z0:U64 0=True:=eq_true U64_0
 have z2:U64 2=True:=eq_true (by decide)
 have z3:U64 3=True:=eq_true (by decide)
 have z4:U64 4=True:=eq_true (by decide)
 have z8:U64 8=True:=eq_true (by decide)
 intro v1 h1
 rw [eq4 haz0 haz1 haz2 haz3 U64_0 U64_0 U64_0 U64_0] at h1
 refine rbX (fun c1 v2 h2=>?_) (fun c1=>?_) v1 h1
 ·rw [eq4 hay0 hay1 hay2 hay3 U64_0 U64_0 U64_0 U64_0] at h2
  refine brX (fun c2=>?_) (fun c2=>?_) v2 h2
  ·rw [tj_none (Or.inr c2)]; decide +kernel
  ·have c1:¬ val4 az0 az1 az2 az3=0:=c1
   have c2:¬ val4 ay0 ay1 ay2 ay3=0:=c2
   simp only [forall_eq,ulP,ltI,laI,lsI,eax0,eax1,eax2,eax3,eay0,eay1,eay2,eay3,eaz0,eaz1,eaz2,eaz3,z0,z2,z3,z4,z8,true_and]
   generalize val4 ax0 ax1 ax2 ax3=X at *
   generalize val4 ay0 ay1 ay2 ay3=Y at *
   generalize val4 az0 az1 az2 az3=Z at *
   have tw:¬ (Z=0\/Y=0):=fun z=>z.elim c1 c2
   simp only [twJ,if_neg tw,and_self]
 ·rw [tj_none (Or.inl c1)]; decide +kernel
theorem rTwice_ok:SpecOk Tryz.prog 79 rTwiceSpec:=by
 intro args k h
 unfold rTwiceSpec at h
 split at h
 ·rename_i ax0 ax1 ax2 ax3 ay0 ay1 ay2 ay3 az0 az1 az2 az3
  obtain ⟨hr,h⟩:=h
  exact ⟨_,h _ rfl _ rfl _ rfl,PureOk.of_tie (GC Tryz.prog rf1Spec) (fun w__=>gok w__ namesOk_ mixed_ rf1_ok) (fun _=>rfl) (fun _=>rfl) (args':=[.agg [.int .u64 (.sym ax0.val),.int .u64 (.sym ax1.val),.int .u64 (.sym ax2.val),.int .u64 (.sym ax3.val),.int .u64 (.sym ay0.val),.int .u64 (.sym ay1.val),.int .u64 (.sym ay2.val),.int .u64 (.sym ay3.val),.int .u64 (.sym az0.val),.int .u64 (.sym az1.val),.int .u64 (.sym az2.val),.int .u64 (.sym az3.val)]]) ⟨⟨⟨rfl,rfl⟩,⟨rfl,rfl⟩,⟨rfl,rfl⟩,⟨rfl,rfl⟩,⟨rfl,rfl⟩,⟨rfl,rfl⟩,⟨rfl,rfl⟩,⟨rfl,rfl⟩,⟨rfl,rfl⟩,⟨rfl,rfl⟩,⟨rfl,rfl⟩,⟨rfl,rfl⟩,trivial⟩,trivial⟩ 40 (fun w__=>VCRTwice ax0.val ax1.val ax2.val ax3.val ay0.val ay1.val ay2.val ay3.val az0.val az1.val az2.val az3.val) (fun w__=>tieRTwice w__ ax0.val ax1.val ax2.val ax3.val ay0.val ay1.val ay2.val ay3.val az0.val az1.val az2.val az3.val) (fun w__=>pureRTwice ax0.val ax1.val ax2.val ax3.val ay0.val ay1.val ay2.val ay3.val az0.val az1.val az2.val az3.val hr)⟩
 ·exact h.elim

def rLoweredSpec:CSpec
 | [.agg [.int .u64 ax0,.int .u64 ax1,.int .u64 ax2,.int .u64 ax3,.int .u64 ay0,.int .u64 ay1,.int .u64 ay2,.int .u64 ay3,.int .u64 az0,.int .u64 az1,.int .u64 az2,.int .u64 az3]],k=>((U64 ax0.val)/\(U64 ax1.val)/\(U64 ax2.val)/\(U64 ax3.val)/\(U64 ay0.val)/\(U64 ay1.val)/\(U64 ay2.val)/\(U64 ay3.val)/\(U64 az0.val)/\(U64 az1.val)/\(U64 az2.val)/\(U64 az3.val))/\(∀ r0:Int,r0=(lwX (val4 ax0.val ax1.val ax2.val ax3.val,val4 ay0.val ay1.val ay2.val ay3.val,val4 az0.val az1.val az2.val az3.val))->∀ r1:Int,r1=(lwY (val4 ax0.val ax1.val ax2.val ax3.val,val4 ay0.val ay1.val ay2.val ay3.val,val4 az0.val az1.val az2.val az3.val))->∀ r2:Bool,r2=(pnB (val4 ax0.val ax1.val ax2.val ax3.val,val4 ay0.val ay1.val ay2.val ay3.val,val4 az0.val az1.val az2.val az3.val))->k (.agg [.int .u64 (.sym (limb r0 0)),.int .u64 (.sym (limb r0 1)),.int .u64 (.sym (limb r0 2)),.int .u64 (.sym (limb r0 3)),.int .u64 (.sym (limb r1 0)),.int .u64 (.sym (limb r1 1)),.int .u64 (.sym (limb r1 2)),.int .u64 (.sym (limb r1 3)),.bool (.sym r2)]))
 | _,_=>False
def VCRLowered (ax0:Int) (ax1:Int) (ax2:Int) (ax3:Int) (ay0:Int) (ay1:Int) (ay2:Int) (ay3:Int) (az0:Int) (az1:Int) (az2:Int) (az3:Int):Prop :=
 ∀ v1,v1=(az0==(0:Int)&&(az1==(0:Int)&&(az2==(0:Int)&&(az3==(0:Int)&&true))))->(v1=true->(IntKind.u64=IntKind.u64/\0=limb (lwX (val4 ax0 ax1 ax2 ax3,val4 ay0 ay1 ay2 ay3,val4 az0 az1 az2 az3)) 0)/\(IntKind.u64=IntKind.u64/\0=limb (lwX (val4 ax0 ax1 ax2 ax3,val4 ay0 ay1 ay2 ay3,val4 az0 az1 az2 az3)) 1)/\(IntKind.u64=IntKind.u64/\0=limb (lwX (val4 ax0 ax1 ax2 ax3,val4 ay0 ay1 ay2 ay3,val4 az0 az1 az2 az3)) 2)/\(IntKind.u64=IntKind.u64/\0=limb (lwX (val4 ax0 ax1 ax2 ax3,val4 ay0 ay1 ay2 ay3,val4 az0 az1 az2 az3)) 3)/\(IntKind.u64=IntKind.u64/\0=limb (lwY (val4 ax0 ax1 ax2 ax3,val4 ay0 ay1 ay2 ay3,val4 az0 az1 az2 az3)) 0)/\(IntKind.u64=IntKind.u64/\0=limb (lwY (val4 ax0 ax1 ax2 ax3,val4 ay0 ay1 ay2 ay3,val4 az0 az1 az2 az3)) 1)/\(IntKind.u64=IntKind.u64/\0=limb (lwY (val4 ax0 ax1 ax2 ax3,val4 ay0 ay1 ay2 ay3,val4 az0 az1 az2 az3)) 2)/\(IntKind.u64=IntKind.u64/\0=limb (lwY (val4 ax0 ax1 ax2 ax3,val4 ay0 ay1 ay2 ay3,val4 az0 az1 az2 az3)) 3)/\true=pnB (val4 ax0 ax1 ax2 ax3,val4 ay0 ay1 ay2 ay3,val4 az0 az1 az2 az3)/\True)/\(v1=false->(U64 az0/\U64 az1/\U64 az2/\U64 az3/\U64 18446744073709551615/\U64 4294967295/\U64 0/\U64 18446744069414584321)/\∀ v2,v2=invF (val4 az0 az1 az2 az3) (115792089210356248762697446949407573530086143415290314195533631308867097853951:Int)->∀ v3,v3=okF (val4 az0 az1 az2 az3) (115792089210356248762697446949407573530086143415290314195533631308867097853951:Int)->(U64 (limb v2 0)/\U64 (limb v2 1)/\U64 (limb v2 2)/\U64 (limb v2 3)/\U64 (limb v2 0)/\U64 (limb v2 1)/\U64 (limb v2 2)/\U64 (limb v2 3))/\∀ v4,v4=tI (val4 (limb v2 0) (limb v2 1) (limb v2 2) (limb v2 3)) (val4 (limb v2 0) (limb v2 1) (limb v2 2) (limb v2 3))->(U64 ax0/\U64 ax1/\U64 ax2/\U64 ax3/\U64 (limb v4 0)/\U64 (limb v4 1)/\U64 (limb v4 2)/\U64 (limb v4 3))/\∀ v5,v5=tI (val4 ax0 ax1 ax2 ax3) (val4 (limb v4 0) (limb v4 1) (limb v4 2) (limb v4 3))->(U64 (limb v4 0)/\U64 (limb v4 1)/\U64 (limb v4 2)/\U64 (limb v4 3)/\U64 (limb v2 0)/\U64 (limb v2 1)/\U64 (limb v2 2)/\U64 (limb v2 3))/\∀ v6,v6=tI (val4 (limb v4 0) (limb v4 1) (limb v4 2) (limb v4 3)) (val4 (limb v2 0) (limb v2 1) (limb v2 2) (limb v2 3))->(U64 ay0/\U64 ay1/\U64 ay2/\U64 ay3/\U64 (limb v6 0)/\U64 (limb v6 1)/\U64 (limb v6 2)/\U64 (limb v6 3))/\∀ v7,v7=tI (val4 ay0 ay1 ay2 ay3) (val4 (limb v6 0) (limb v6 1) (limb v6 2) (limb v6 3))->(IntKind.u64=IntKind.u64/\limb v5 0=limb (lwX (val4 ax0 ax1 ax2 ax3,val4 ay0 ay1 ay2 ay3,val4 az0 az1 az2 az3)) 0)/\(IntKind.u64=IntKind.u64/\limb v5 1=limb (lwX (val4 ax0 ax1 ax2 ax3,val4 ay0 ay1 ay2 ay3,val4 az0 az1 az2 az3)) 1)/\(IntKind.u64=IntKind.u64/\limb v5 2=limb (lwX (val4 ax0 ax1 ax2 ax3,val4 ay0 ay1 ay2 ay3,val4 az0 az1 az2 az3)) 2)/\(IntKind.u64=IntKind.u64/\limb v5 3=limb (lwX (val4 ax0 ax1 ax2 ax3,val4 ay0 ay1 ay2 ay3,val4 az0 az1 az2 az3)) 3)/\(IntKind.u64=IntKind.u64/\limb v7 0=limb (lwY (val4 ax0 ax1 ax2 ax3,val4 ay0 ay1 ay2 ay3,val4 az0 az1 az2 az3)) 0)/\(IntKind.u64=IntKind.u64/\limb v7 1=limb (lwY (val4 ax0 ax1 ax2 ax3,val4 ay0 ay1 ay2 ay3,val4 az0 az1 az2 az3)) 1)/\(IntKind.u64=IntKind.u64/\limb v7 2=limb (lwY (val4 ax0 ax1 ax2 ax3,val4 ay0 ay1 ay2 ay3,val4 az0 az1 az2 az3)) 2)/\(IntKind.u64=IntKind.u64/\limb v7 3=limb (lwY (val4 ax0 ax1 ax2 ax3,val4 ay0 ay1 ay2 ay3,val4 az0 az1 az2 az3)) 3)/\false=pnB (val4 ax0 ax1 ax2 ax3,val4 ay0 ay1 ay2 ay3,val4 az0 az1 az2 az3)/\True)
theorem tieRLowered (w0:World) (ax0:Int) (ax1:Int) (ax2:Int) (ax3:Int) (ay0:Int) (ay1:Int) (ay2:Int) (ay3:Int) (az0:Int) (az1:Int) (az2:Int) (az3:Int):VCRLowered ax0 ax1 ax2 ax3 ay0 ay1 ay2 ay3 az0 az1 az2 az3=((recN (GC Tryz.prog rf1Spec w0) 40).call 40 [.agg [.int .u64 (.sym ax0),.int .u64 (.sym ax1),.int .u64 (.sym ax2),.int .u64 (.sym ax3),.int .u64 (.sym ay0),.int .u64 (.sym ay1),.int .u64 (.sym ay2),.int .u64 (.sym ay3),.int .u64 (.sym az0),.int .u64 (.sym az1),.int .u64 (.sym az2),.int .u64 (.sym az3)]] [] (fun r__ _=>eqV r__ (.agg [.int .u64 (.sym (limb (lwX (val4 ax0 ax1 ax2 ax3,val4 ay0 ay1 ay2 ay3,val4 az0 az1 az2 az3)) 0)),.int .u64 (.sym (limb (lwX (val4 ax0 ax1 ax2 ax3,val4 ay0 ay1 ay2 ay3,val4 az0 az1 az2 az3)) 1)),.int .u64 (.sym (limb (lwX (val4 ax0 ax1 ax2 ax3,val4 ay0 ay1 ay2 ay3,val4 az0 az1 az2 az3)) 2)),.int .u64 (.sym (limb (lwX (val4 ax0 ax1 ax2 ax3,val4 ay0 ay1 ay2 ay3,val4 az0 az1 az2 az3)) 3)),.int .u64 (.sym (limb (lwY (val4 ax0 ax1 ax2 ax3,val4 ay0 ay1 ay2 ay3,val4 az0 az1 az2 az3)) 0)),.int .u64 (.sym (limb (lwY (val4 ax0 ax1 ax2 ax3,val4 ay0 ay1 ay2 ay3,val4 az0 az1 az2 az3)) 1)),.int .u64 (.sym (limb (lwY (val4 ax0 ax1 ax2 ax3,val4 ay0 ay1 ay2 ay3,val4 az0 az1 az2 az3)) 2)),.int .u64 (.sym (limb (lwY (val4 ax0 ax1 ax2 ax3,val4 ay0 ay1 ay2 ay3,val4 az0 az1 az2 az3)) 3)),.bool (.sym (pnB (val4 ax0 ax1 ax2 ax3,val4 ay0 ay1 ay2 ay3,val4 az0 az1 az2 az3)))]))):=by kernel_rfl
theorem lIv (z:Int):val4 (limb (invF z 115792089210356248762697446949407573530086143415290314195533631308867097853951) 0) (limb (invF z 115792089210356248762697446949407573530086143415290314195533631308867097853951) 1) (limb (invF z 115792089210356248762697446949407573530086143415290314195533631308867097853951) 2) (limb (invF z 115792089210356248762697446949407573530086143415290314195533631308867097853951) 3)=invF z 115792089210356248762697446949407573530086143415290314195533631308867097853951:=by
 have nn:=invF_ltP (a:=z) (m:=115792089210356248762697446949407573530086143415290314195533631308867097853951) (by decide)
 exact val4_limb' nn.1 (by omega)
theorem pureRLowered (ax0 ax1 ax2 ax3 ay0 ay1 ay2 ay3 az0 az1 az2 az3:Int) (h:U64 ax0/\U64 ax1/\U64 ax2/\U64 ax3/\U64 ay0/\U64 ay1/\U64 ay2/\U64 ay3/\U64 az0/\U64 az1/\U64 az2/\U64 az3):VCRLowered ax0 ax1 ax2 ax3 ay0 ay1 ay2 ay3 az0 az1 az2 az3:=by
 obtain ⟨hax0,hax1,hax2,hax3,hay0,hay1,hay2,hay3,haz0,haz1,haz2,haz3⟩:=h
 have eax0:U64 ax0=True:=eq_true hax0
 have eax1:U64 ax1=True:=eq_true hax1
 have eax2:U64 ax2=True:=eq_true hax2
 have eax3:U64 ax3=True:=eq_true hax3
 have eay0:U64 ay0=True:=eq_true hay0
 have eay1:U64 ay1=True:=eq_true hay1
 have eay2:U64 ay2=True:=eq_true hay2
 have eay3:U64 ay3=True:=eq_true hay3
 have eaz0:U64 az0=True:=eq_true haz0
 have eaz1:U64 az1=True:=eq_true haz1
 have eaz2:U64 az2=True:=eq_true haz2
 have eaz3:U64 az3=True:=eq_true haz3
 obtain ⟨q0,q1,q2,q3⟩:=m2
 have p0:=eq_true q0
 have p1:=eq_true q1
 have p2:=eq_true q2
 have p3:=eq_true q3
 intro v1 h1
 rw [eq4 haz0 haz1 haz2 haz3 U64_0 U64_0 U64_0 U64_0] at h1
 refine brX (fun c=>?_) (fun c=>?_) v1 h1
 ·have c:val4 az0 az1 az2 az3=0:=c
  have ex:lwX (val4 ax0 ax1 ax2 ax3,val4 ay0 ay1 ay2 ay3,val4 az0 az1 az2 az3)=0:=if_pos c
  have ey:lwY (val4 ax0 ax1 ax2 ax3,val4 ay0 ay1 ay2 ay3,val4 az0 az1 az2 az3)=0:=if_pos c
  have eb:pnB (val4 ax0 ax1 ax2 ax3,val4 ay0 ay1 ay2 ay3,val4 az0 az1 az2 az3)=true:=decide_eq_true c
  rw [ex,ey,eb]; decide +kernel
 ·have c:¬ val4 az0 az1 az2 az3=0:=c
  have eb:pnB (val4 ax0 ax1 ax2 ax3,val4 ay0 ay1 ay2 ay3,val4 az0 az1 az2 az3)=false:=decide_eq_false c
  have em:val4 18446744073709551615 4294967295 0 18446744069414584321=115792089210356248762697446949407573530086143415290314195533631308867097853951:=rfl
  simp only [forall_eq,ulP,em,ltI,laI,lsI,lIv,eax0,eax1,eax2,eax3,eay0,eay1,eay2,eay3,eaz0,eaz1,eaz2,eaz3,p0,p1,p2,p3,true_and,lwX,lwY,if_neg c,eb,and_self]
theorem rLowered_ok:SpecOk Tryz.prog 40 rLoweredSpec:=by
 intro args k h
 unfold rLoweredSpec at h
 split at h
 ·rename_i ax0 ax1 ax2 ax3 ay0 ay1 ay2 ay3 az0 az1 az2 az3
  obtain ⟨hr,h⟩:=h
  exact ⟨_,h _ rfl _ rfl _ rfl,PureOk.of_tie (GC Tryz.prog rf1Spec) (fun w__=>gok w__ namesOk_ mixed_ rf1_ok) (fun _=>rfl) (fun _=>rfl) (args':=[.agg [.int .u64 (.sym ax0.val),.int .u64 (.sym ax1.val),.int .u64 (.sym ax2.val),.int .u64 (.sym ax3.val),.int .u64 (.sym ay0.val),.int .u64 (.sym ay1.val),.int .u64 (.sym ay2.val),.int .u64 (.sym ay3.val),.int .u64 (.sym az0.val),.int .u64 (.sym az1.val),.int .u64 (.sym az2.val),.int .u64 (.sym az3.val)]]) ⟨⟨⟨rfl,rfl⟩,⟨rfl,rfl⟩,⟨rfl,rfl⟩,⟨rfl,rfl⟩,⟨rfl,rfl⟩,⟨rfl,rfl⟩,⟨rfl,rfl⟩,⟨rfl,rfl⟩,⟨rfl,rfl⟩,⟨rfl,rfl⟩,⟨rfl,rfl⟩,⟨rfl,rfl⟩,trivial⟩,trivial⟩ 40 (fun w__=>VCRLowered ax0.val ax1.val ax2.val ax3.val ay0.val ay1.val ay2.val ay3.val az0.val az1.val az2.val az3.val) (fun w__=>tieRLowered w__ ax0.val ax1.val ax2.val ax3.val ay0.val ay1.val ay2.val ay3.val az0.val az1.val az2.val az3.val) (fun w__=>pureRLowered ax0.val ax1.val ax2.val ax3.val ay0.val ay1.val ay2.val ay3.val az0.val az1.val az2.val az3.val hr)⟩
 ·exact h.elim

end Go.Proofs.YtaaobpalpcdlbaaGreat.Bits
namespace Go.Proofs.YtaaobpalpcdlbaaGreat.Bits
open Go Go.Sx Go.RowKit Go.EC
set_option linter.unusedVariables false
set_option linter.unusedSimpArgs false
set_option maxRecDepth 100000
def rf2Spec:List (FuncId×CSpec):=[(26,rMul4Spec),(25,rAdd4Spec),(27,rSub4Spec),(79,rTwiceSpec)]
theorem rf2_ok:SpecsOk Tryz.prog rf2Spec:=⟨rMul4_ok,rAdd4_ok,rSub4_ok,rTwice_ok,trivial⟩
theorem pj_b {a b:Sol} (h:a.2.2=0):plJ a b=b:=if_pos h
theorem pj_a {a b:Sol} (h:a.2.2≠0) (k:b.2.2=0):plJ a b=a:=by unfold plJ; rw [if_neg h,if_pos k]
def rPlusSpec:CSpec
 | [.agg [.int .u64 ax0,.int .u64 ax1,.int .u64 ax2,.int .u64 ax3,.int .u64 ay0,.int .u64 ay1,.int .u64 ay2,.int .u64 ay3,.int .u64 az0,.int .u64 az1,.int .u64 az2,.int .u64 az3],.agg [.int .u64 bx0,.int .u64 bx1,.int .u64 bx2,.int .u64 bx3,.int .u64 by0,.int .u64 by1,.int .u64 by2,.int .u64 by3,.int .u64 bz0,.int .u64 bz1,.int .u64 bz2,.int .u64 bz3]],k=>((U64 ax0.val)/\(U64 ax1.val)/\(U64 ax2.val)/\(U64 ax3.val)/\(U64 ay0.val)/\(U64 ay1.val)/\(U64 ay2.val)/\(U64 ay3.val)/\(U64 az0.val)/\(U64 az1.val)/\(U64 az2.val)/\(U64 az3.val)/\(U64 bx0.val)/\(U64 bx1.val)/\(U64 bx2.val)/\(U64 bx3.val)/\(U64 by0.val)/\(U64 by1.val)/\(U64 by2.val)/\(U64 by3.val)/\(U64 bz0.val)/\(U64 bz1.val)/\(U64 bz2.val)/\(U64 bz3.val))/\(∀ r0:Int,r0=((plJ (val4 ax0.val ax1.val ax2.val ax3.val,val4 ay0.val ay1.val ay2.val ay3.val,val4 az0.val az1.val az2.val az3.val) (val4 bx0.val bx1.val bx2.val bx3.val,val4 by0.val by1.val by2.val by3.val,val4 bz0.val bz1.val bz2.val bz3.val)).1)->∀ r1:Int,r1=((plJ (val4 ax0.val ax1.val ax2.val ax3.val,val4 ay0.val ay1.val ay2.val ay3.val,val4 az0.val az1.val az2.val az3.val) (val4 bx0.val bx1.val bx2.val bx3.val,val4 by0.val by1.val by2.val by3.val,val4 bz0.val bz1.val bz2.val bz3.val)).2.1)->∀ r2:Int,r2=((plJ (val4 ax0.val ax1.val ax2.val ax3.val,val4 ay0.val ay1.val ay2.val ay3.val,val4 az0.val az1.val az2.val az3.val) (val4 bx0.val bx1.val bx2.val bx3.val,val4 by0.val by1.val by2.val by3.val,val4 bz0.val bz1.val bz2.val bz3.val)).2.2)->k (.agg [.int .u64 (.sym (limb r0 0)),.int .u64 (.sym (limb r0 1)),.int .u64 (.sym (limb r0 2)),.int .u64 (.sym (limb r0 3)),.int .u64 (.sym (limb r1 0)),.int .u64 (.sym (limb r1 1)),.int .u64 (.sym (limb r1 2)),.int .u64 (.sym (limb r1 3)),.int .u64 (.sym (limb r2 0)),.int .u64 (.sym (limb r2 1)),.int .u64 (.sym (limb r2 2)),.int .u64 (.sym (limb r2 3))]))
 | _,_=>False
def VCRPlus (ax0:Int) (ax1:Int) (ax2:Int) (ax3:Int) (ay0:Int) (ay1:Int) (ay2:Int) (ay3:Int) (az0:Int) (az1:Int) (az2:Int) (az3:Int) (bx0:Int) (bx1:Int) (bx2:Int) (bx3:Int) (by0:Int) (by1:Int) (by2:Int) (by3:Int) (bz0:Int) (bz1:Int) (bz2:Int) (bz3:Int):Prop :=
 ∀ v1,v1=(az0==(0:Int)&&(az1==(0:Int)&&(az2==(0:Int)&&(az3==(0:Int)&&true))))->(v1=true->(IntKind.u64=IntKind.u64/\bx0=limb (plJ (val4 ax0 ax1 ax2 ax3,val4 ay0 ay1 ay2 ay3,val4 az0 az1 az2 az3) (val4 bx0 bx1 bx2 bx3,val4 by0 by1 by2 by3,val4 bz0 bz1 bz2 bz3)).fst 0)/\(IntKind.u64=IntKind.u64/\bx1=limb (plJ (val4 ax0 ax1 ax2 ax3,val4 ay0 ay1 ay2 ay3,val4 az0 az1 az2 az3) (val4 bx0 bx1 bx2 bx3,val4 by0 by1 by2 by3,val4 bz0 bz1 bz2 bz3)).fst 1)/\(IntKind.u64=IntKind.u64/\bx2=limb (plJ (val4 ax0 ax1 ax2 ax3,val4 ay0 ay1 ay2 ay3,val4 az0 az1 az2 az3) (val4 bx0 bx1 bx2 bx3,val4 by0 by1 by2 by3,val4 bz0 bz1 bz2 bz3)).fst 2)/\(IntKind.u64=IntKind.u64/\bx3=limb (plJ (val4 ax0 ax1 ax2 ax3,val4 ay0 ay1 ay2 ay3,val4 az0 az1 az2 az3) (val4 bx0 bx1 bx2 bx3,val4 by0 by1 by2 by3,val4 bz0 bz1 bz2 bz3)).fst 3)/\(IntKind.u64=IntKind.u64/\by0=limb (plJ (val4 ax0 ax1 ax2 ax3,val4 ay0 ay1 ay2 ay3,val4 az0 az1 az2 az3) (val4 bx0 bx1 bx2 bx3,val4 by0 by1 by2 by3,val4 bz0 bz1 bz2 bz3)).snd.fst 0)/\(IntKind.u64=IntKind.u64/\by1=limb (plJ (val4 ax0 ax1 ax2 ax3,val4 ay0 ay1 ay2 ay3,val4 az0 az1 az2 az3) (val4 bx0 bx1 bx2 bx3,val4 by0 by1 by2 by3,val4 bz0 bz1 bz2 bz3)).snd.fst 1)/\(IntKind.u64=IntKind.u64/\by2=limb (plJ (val4 ax0 ax1 ax2 ax3,val4 ay0 ay1 ay2 ay3,val4 az0 az1 az2 az3) (val4 bx0 bx1 bx2 bx3,val4 by0 by1 by2 by3,val4 bz0 bz1 bz2 bz3)).snd.fst 2)/\(IntKind.u64=IntKind.u64/\by3=limb (plJ (val4 ax0 ax1 ax2 ax3,val4 ay0 ay1 ay2 ay3,val4 az0 az1 az2 az3) (val4 bx0 bx1 bx2 bx3,val4 by0 by1 by2 by3,val4 bz0 bz1 bz2 bz3)).snd.fst 3)/\(IntKind.u64=IntKind.u64/\bz0=limb (plJ (val4 ax0 ax1 ax2 ax3,val4 ay0 ay1 ay2 ay3,val4 az0 az1 az2 az3) (val4 bx0 bx1 bx2 bx3,val4 by0 by1 by2 by3,val4 bz0 bz1 bz2 bz3)).snd.snd 0)/\(IntKind.u64=IntKind.u64/\bz1=limb (plJ (val4 ax0 ax1 ax2 ax3,val4 ay0 ay1 ay2 ay3,val4 az0 az1 az2 az3) (val4 bx0 bx1 bx2 bx3,val4 by0 by1 by2 by3,val4 bz0 bz1 bz2 bz3)).snd.snd 1)/\(IntKind.u64=IntKind.u64/\bz2=limb (plJ (val4 ax0 ax1 ax2 ax3,val4 ay0 ay1 ay2 ay3,val4 az0 az1 az2 az3) (val4 bx0 bx1 bx2 bx3,val4 by0 by1 by2 by3,val4 bz0 bz1 bz2 bz3)).snd.snd 2)/\(IntKind.u64=IntKind.u64/\bz3=limb (plJ (val4 ax0 ax1 ax2 ax3,val4 ay0 ay1 ay2 ay3,val4 az0 az1 az2 az3) (val4 bx0 bx1 bx2 bx3,val4 by0 by1 by2 by3,val4 bz0 bz1 bz2 bz3)).snd.snd 3)/\True)/\(v1=false->∀ v2,v2=(bz0==(0:Int)&&(bz1==(0:Int)&&(bz2==(0:Int)&&(bz3==(0:Int)&&true))))->(v2=true->(IntKind.u64=IntKind.u64/\ax0=limb (plJ (val4 ax0 ax1 ax2 ax3,val4 ay0 ay1 ay2 ay3,val4 az0 az1 az2 az3) (val4 bx0 bx1 bx2 bx3,val4 by0 by1 by2 by3,val4 bz0 bz1 bz2 bz3)).fst 0)/\(IntKind.u64=IntKind.u64/\ax1=limb (plJ (val4 ax0 ax1 ax2 ax3,val4 ay0 ay1 ay2 ay3,val4 az0 az1 az2 az3) (val4 bx0 bx1 bx2 bx3,val4 by0 by1 by2 by3,val4 bz0 bz1 bz2 bz3)).fst 1)/\(IntKind.u64=IntKind.u64/\ax2=limb (plJ (val4 ax0 ax1 ax2 ax3,val4 ay0 ay1 ay2 ay3,val4 az0 az1 az2 az3) (val4 bx0 bx1 bx2 bx3,val4 by0 by1 by2 by3,val4 bz0 bz1 bz2 bz3)).fst 2)/\(IntKind.u64=IntKind.u64/\ax3=limb (plJ (val4 ax0 ax1 ax2 ax3,val4 ay0 ay1 ay2 ay3,val4 az0 az1 az2 az3) (val4 bx0 bx1 bx2 bx3,val4 by0 by1 by2 by3,val4 bz0 bz1 bz2 bz3)).fst 3)/\(IntKind.u64=IntKind.u64/\ay0=limb (plJ (val4 ax0 ax1 ax2 ax3,val4 ay0 ay1 ay2 ay3,val4 az0 az1 az2 az3) (val4 bx0 bx1 bx2 bx3,val4 by0 by1 by2 by3,val4 bz0 bz1 bz2 bz3)).snd.fst 0)/\(IntKind.u64=IntKind.u64/\ay1=limb (plJ (val4 ax0 ax1 ax2 ax3,val4 ay0 ay1 ay2 ay3,val4 az0 az1 az2 az3) (val4 bx0 bx1 bx2 bx3,val4 by0 by1 by2 by3,val4 bz0 bz1 bz2 bz3)).snd.fst 1)/\(IntKind.u64=IntKind.u64/\ay2=limb (plJ (val4 ax0 ax1 ax2 ax3,val4 ay0 ay1 ay2 ay3,val4 az0 az1 az2 az3) (val4 bx0 bx1 bx2 bx3,val4 by0 by1 by2 by3,val4 bz0 bz1 bz2 bz3)).snd.fst 2)/\(IntKind.u64=IntKind.u64/\ay3=limb (plJ (val4 ax0 ax1 ax2 ax3,val4 ay0 ay1 ay2 ay3,val4 az0 az1 az2 az3) (val4 bx0 bx1 bx2 bx3,val4 by0 by1 by2 by3,val4 bz0 bz1 bz2 bz3)).snd.fst 3)/\(IntKind.u64=IntKind.u64/\az0=limb (plJ (val4 ax0 ax1 ax2 ax3,val4 ay0 ay1 ay2 ay3,val4 az0 az1 az2 az3) (val4 bx0 bx1 bx2 bx3,val4 by0 by1 by2 by3,val4 bz0 bz1 bz2 bz3)).snd.snd 0)/\(IntKind.u64=IntKind.u64/\az1=limb (plJ (val4 ax0 ax1 ax2 ax3,val4 ay0 ay1 ay2 ay3,val4 az0 az1 az2 az3) (val4 bx0 bx1 bx2 bx3,val4 by0 by1 by2 by3,val4 bz0 bz1 bz2 bz3)).snd.snd 1)/\(IntKind.u64=IntKind.u64/\az2=limb (plJ (val4 ax0 ax1 ax2 ax3,val4 ay0 ay1 ay2 ay3,val4 az0 az1 az2 az3) (val4 bx0 bx1 bx2 bx3,val4 by0 by1 by2 by3,val4 bz0 bz1 bz2 bz3)).snd.snd 2)/\(IntKind.u64=IntKind.u64/\az3=limb (plJ (val4 ax0 ax1 ax2 ax3,val4 ay0 ay1 ay2 ay3,val4 az0 az1 az2 az3) (val4 bx0 bx1 bx2 bx3,val4 by0 by1 by2 by3,val4 bz0 bz1 bz2 bz3)).snd.snd 3)/\True)/\(v2=false->(U64 az0/\U64 az1/\U64 az2/\U64 az3/\U64 az0/\U64 az1/\U64 az2/\U64 az3)/\∀ v3,v3=tI (val4 az0 az1 az2 az3) (val4 az0 az1 az2 az3)->(U64 bz0/\U64 bz1/\U64 bz2/\U64 bz3/\U64 bz0/\U64 bz1/\U64 bz2/\U64 bz3)/\∀ v4,v4=tI (val4 bz0 bz1 bz2 bz3) (val4 bz0 bz1 bz2 bz3)->(U64 ax0/\U64 ax1/\U64 ax2/\U64 ax3/\U64 (limb v4 0)/\U64 (limb v4 1)/\U64 (limb v4 2)/\U64 (limb v4 3))/\∀ v5,v5=tI (val4 ax0 ax1 ax2 ax3) (val4 (limb v4 0) (limb v4 1) (limb v4 2) (limb v4 3))->(U64 bx0/\U64 bx1/\U64 bx2/\U64 bx3/\U64 (limb v3 0)/\U64 (limb v3 1)/\U64 (limb v3 2)/\U64 (limb v3 3))/\∀ v6,v6=tI (val4 bx0 bx1 bx2 bx3) (val4 (limb v3 0) (limb v3 1) (limb v3 2) (limb v3 3))->(U64 (limb v6 0)/\U64 (limb v6 1)/\U64 (limb v6 2)/\U64 (limb v6 3)/\U64 (limb v5 0)/\U64 (limb v5 1)/\U64 (limb v5 2)/\U64 (limb v5 3))/\∀ v7,v7=sI (val4 (limb v6 0) (limb v6 1) (limb v6 2) (limb v6 3)) (val4 (limb v5 0) (limb v5 1) (limb v5 2) (limb v5 3))->(U64 (limb v4 0)/\U64 (limb v4 1)/\U64 (limb v4 2)/\U64 (limb v4 3)/\U64 bz0/\U64 bz1/\U64 bz2/\U64 bz3)/\∀ v8,v8=tI (val4 (limb v4 0) (limb v4 1) (limb v4 2) (limb v4 3)) (val4 bz0 bz1 bz2 bz3)->(U64 ay0/\U64 ay1/\U64 ay2/\U64 ay3/\U64 (limb v8 0)/\U64 (limb v8 1)/\U64 (limb v8 2)/\U64 (limb v8 3))/\∀ v9,v9=tI (val4 ay0 ay1 ay2 ay3) (val4 (limb v8 0) (limb v8 1) (limb v8 2) (limb v8 3))->(U64 (limb v3 0)/\U64 (limb v3 1)/\U64 (limb v3 2)/\U64 (limb v3 3)/\U64 az0/\U64 az1/\U64 az2/\U64 az3)/\∀ v10,v10=tI (val4 (limb v3 0) (limb v3 1) (limb v3 2) (limb v3 3)) (val4 az0 az1 az2 az3)->(U64 by0/\U64 by1/\U64 by2/\U64 by3/\U64 (limb v10 0)/\U64 (limb v10 1)/\U64 (limb v10 2)/\U64 (limb v10 3))/\∀ v11,v11=tI (val4 by0 by1 by2 by3) (val4 (limb v10 0) (limb v10 1) (limb v10 2) (limb v10 3))->(U64 (limb v11 0)/\U64 (limb v11 1)/\U64 (limb v11 2)/\U64 (limb v11 3)/\U64 (limb v9 0)/\U64 (limb v9 1)/\U64 (limb v9 2)/\U64 (limb v9 3))/\∀ v12,v12=sI (val4 (limb v11 0) (limb v11 1) (limb v11 2) (limb v11 3)) (val4 (limb v9 0) (limb v9 1) (limb v9 2) (limb v9 3))->∀ v13,v13=(limb v7 0==(0:Int)&&(limb v7 1==(0:Int)&&(limb v7 2==(0:Int)&&(limb v7 3==(0:Int)&&true))))->(v13=true->∀ v14,v14=(limb v12 0==(0:Int)&&(limb v12 1==(0:Int)&&(limb v12 2==(0:Int)&&(limb v12 3==(0:Int)&&true))))->(v14=true->(U64 ax0/\U64 ax1/\U64 ax2/\U64 ax3/\U64 ay0/\U64 ay1/\U64 ay2/\U64 ay3/\U64 az0/\U64 az1/\U64 az2/\U64 az3)/\∀ v15,v15=(twJ (val4 ax0 ax1 ax2 ax3,val4 ay0 ay1 ay2 ay3,val4 az0 az1 az2 az3)).fst->∀ v16,v16=(twJ (val4 ax0 ax1 ax2 ax3,val4 ay0 ay1 ay2 ay3,val4 az0 az1 az2 az3)).snd.fst->∀ v17,v17=(twJ (val4 ax0 ax1 ax2 ax3,val4 ay0 ay1 ay2 ay3,val4 az0 az1 az2 az3)).snd.snd->(IntKind.u64=IntKind.u64/\limb v15 0=limb (plJ (val4 ax0 ax1 ax2 ax3,val4 ay0 ay1 ay2 ay3,val4 az0 az1 az2 az3) (val4 bx0 bx1 bx2 bx3,val4 by0 by1 by2 by3,val4 bz0 bz1 bz2 bz3)).fst 0)/\(IntKind.u64=IntKind.u64/\limb v15 1=limb (plJ (val4 ax0 ax1 ax2 ax3,val4 ay0 ay1 ay2 ay3,val4 az0 az1 az2 az3) (val4 bx0 bx1 bx2 bx3,val4 by0 by1 by2 by3,val4 bz0 bz1 bz2 bz3)).fst 1)/\(IntKind.u64=IntKind.u64/\limb v15 2=limb (plJ (val4 ax0 ax1 ax2 ax3,val4 ay0 ay1 ay2 ay3,val4 az0 az1 az2 az3) (val4 bx0 bx1 bx2 bx3,val4 by0 by1 by2 by3,val4 bz0 bz1 bz2 bz3)).fst 2)/\(IntKind.u64=IntKind.u64/\limb v15 3=limb (plJ (val4 ax0 ax1 ax2 ax3,val4 ay0 ay1 ay2 ay3,val4 az0 az1 az2 az3) (val4 bx0 bx1 bx2 bx3,val4 by0 by1 by2 by3,val4 bz0 bz1 bz2 bz3)).fst 3)/\(IntKind.u64=IntKind.u64/\limb v16 0=limb (plJ (val4 ax0 ax1 ax2 ax3,val4 ay0 ay1 ay2 ay3,val4 az0 az1 az2 az3) (val4 bx0 bx1 bx2 bx3,val4 by0 by1 by2 by3,val4 bz0 bz1 bz2 bz3)).snd.fst 0)/\(IntKind.u64=IntKind.u64/\limb v16 1=limb (plJ (val4 ax0 ax1 ax2 ax3,val4 ay0 ay1 ay2 ay3,val4 az0 az1 az2 az3) (val4 bx0 bx1 bx2 bx3,val4 by0 by1 by2 by3,val4 bz0 bz1 bz2 bz3)).snd.fst 1)/\(IntKind.u64=IntKind.u64/\limb v16 2=limb (plJ (val4 ax0 ax1 ax2 ax3,val4 ay0 ay1 ay2 ay3,val4 az0 az1 az2 az3) (val4 bx0 bx1 bx2 bx3,val4 by0 by1 by2 by3,val4 bz0 bz1 bz2 bz3)).snd.fst 2)/\(IntKind.u64=IntKind.u64/\limb v16 3=limb (plJ (val4 ax0 ax1 ax2 ax3,val4 ay0 ay1 ay2 ay3,val4 az0 az1 az2 az3) (val4 bx0 bx1 bx2 bx3,val4 by0 by1 by2 by3,val4 bz0 bz1 bz2 bz3)).snd.fst 3)/\(IntKind.u64=IntKind.u64/\limb v17 0=limb (plJ (val4 ax0 ax1 ax2 ax3,val4 ay0 ay1 ay2 ay3,val4 az0 az1 az2 az3) (val4 bx0 bx1 bx2 bx3,val4 by0 by1 by2 by3,val4 bz0 bz1 bz2 bz3)).snd.snd 0)/\(IntKind.u64=IntKind.u64/\limb v17 1=limb (plJ (val4 ax0 ax1 ax2 ax3,val4 ay0 ay1 ay2 ay3,val4 az0 az1 az2 az3) (val4 bx0 bx1 bx2 bx3,val4 by0 by1 by2 by3,val4 bz0 bz1 bz2 bz3)).snd.snd 1)/\(IntKind.u64=IntKind.u64/\limb v17 2=limb (plJ (val4 ax0 ax1 ax2 ax3,val4 ay0 ay1 ay2 ay3,val4 az0 az1 az2 az3) (val4 bx0 bx1 bx2 bx3,val4 by0 by1 by2 by3,val4 bz0 bz1 bz2 bz3)).snd.snd 2)/\(IntKind.u64=IntKind.u64/\limb v17 3=limb (plJ (val4 ax0 ax1 ax2 ax3,val4 ay0 ay1 ay2 ay3,val4 az0 az1 az2 az3) (val4 bx0 bx1 bx2 bx3,val4 by0 by1 by2 by3,val4 bz0 bz1 bz2 bz3)).snd.snd 3)/\True)/\(v14=false->(IntKind.u64=IntKind.u64/\1=limb (plJ (val4 ax0 ax1 ax2 ax3,val4 ay0 ay1 ay2 ay3,val4 az0 az1 az2 az3) (val4 bx0 bx1 bx2 bx3,val4 by0 by1 by2 by3,val4 bz0 bz1 bz2 bz3)).fst 0)/\(IntKind.u64=IntKind.u64/\0=limb (plJ (val4 ax0 ax1 ax2 ax3,val4 ay0 ay1 ay2 ay3,val4 az0 az1 az2 az3) (val4 bx0 bx1 bx2 bx3,val4 by0 by1 by2 by3,val4 bz0 bz1 bz2 bz3)).fst 1)/\(IntKind.u64=IntKind.u64/\0=limb (plJ (val4 ax0 ax1 ax2 ax3,val4 ay0 ay1 ay2 ay3,val4 az0 az1 az2 az3) (val4 bx0 bx1 bx2 bx3,val4 by0 by1 by2 by3,val4 bz0 bz1 bz2 bz3)).fst 2)/\(IntKind.u64=IntKind.u64/\0=limb (plJ (val4 ax0 ax1 ax2 ax3,val4 ay0 ay1 ay2 ay3,val4 az0 az1 az2 az3) (val4 bx0 bx1 bx2 bx3,val4 by0 by1 by2 by3,val4 bz0 bz1 bz2 bz3)).fst 3)/\(IntKind.u64=IntKind.u64/\1=limb (plJ (val4 ax0 ax1 ax2 ax3,val4 ay0 ay1 ay2 ay3,val4 az0 az1 az2 az3) (val4 bx0 bx1 bx2 bx3,val4 by0 by1 by2 by3,val4 bz0 bz1 bz2 bz3)).snd.fst 0)/\(IntKind.u64=IntKind.u64/\0=limb (plJ (val4 ax0 ax1 ax2 ax3,val4 ay0 ay1 ay2 ay3,val4 az0 az1 az2 az3) (val4 bx0 bx1 bx2 bx3,val4 by0 by1 by2 by3,val4 bz0 bz1 bz2 bz3)).snd.fst 1)/\(IntKind.u64=IntKind.u64/\0=limb (plJ (val4 ax0 ax1 ax2 ax3,val4 ay0 ay1 ay2 ay3,val4 az0 az1 az2 az3) (val4 bx0 bx1 bx2 bx3,val4 by0 by1 by2 by3,val4 bz0 bz1 bz2 bz3)).snd.fst 2)/\(IntKind.u64=IntKind.u64/\0=limb (plJ (val4 ax0 ax1 ax2 ax3,val4 ay0 ay1 ay2 ay3,val4 az0 az1 az2 az3) (val4 bx0 bx1 bx2 bx3,val4 by0 by1 by2 by3,val4 bz0 bz1 bz2 bz3)).snd.fst 3)/\(IntKind.u64=IntKind.u64/\0=limb (plJ (val4 ax0 ax1 ax2 ax3,val4 ay0 ay1 ay2 ay3,val4 az0 az1 az2 az3) (val4 bx0 bx1 bx2 bx3,val4 by0 by1 by2 by3,val4 bz0 bz1 bz2 bz3)).snd.snd 0)/\(IntKind.u64=IntKind.u64/\0=limb (plJ (val4 ax0 ax1 ax2 ax3,val4 ay0 ay1 ay2 ay3,val4 az0 az1 az2 az3) (val4 bx0 bx1 bx2 bx3,val4 by0 by1 by2 by3,val4 bz0 bz1 bz2 bz3)).snd.snd 1)/\(IntKind.u64=IntKind.u64/\0=limb (plJ (val4 ax0 ax1 ax2 ax3,val4 ay0 ay1 ay2 ay3,val4 az0 az1 az2 az3) (val4 bx0 bx1 bx2 bx3,val4 by0 by1 by2 by3,val4 bz0 bz1 bz2 bz3)).snd.snd 2)/\(IntKind.u64=IntKind.u64/\0=limb (plJ (val4 ax0 ax1 ax2 ax3,val4 ay0 ay1 ay2 ay3,val4 az0 az1 az2 az3) (val4 bx0 bx1 bx2 bx3,val4 by0 by1 by2 by3,val4 bz0 bz1 bz2 bz3)).snd.snd 3)/\True))/\(v13=false->(U64 (limb v7 0)/\U64 (limb v7 1)/\U64 (limb v7 2)/\U64 (limb v7 3)/\U64 (limb v7 0)/\U64 (limb v7 1)/\U64 (limb v7 2)/\U64 (limb v7 3))/\∀ v18,v18=tI (val4 (limb v7 0) (limb v7 1) (limb v7 2) (limb v7 3)) (val4 (limb v7 0) (limb v7 1) (limb v7 2) (limb v7 3))->(U64 (limb v7 0)/\U64 (limb v7 1)/\U64 (limb v7 2)/\U64 (limb v7 3)/\U64 (limb v18 0)/\U64 (limb v18 1)/\U64 (limb v18 2)/\U64 (limb v18 3))/\∀ v19,v19=tI (val4 (limb v7 0) (limb v7 1) (limb v7 2) (limb v7 3)) (val4 (limb v18 0) (limb v18 1) (limb v18 2) (limb v18 3))->(U64 (limb v5 0)/\U64 (limb v5 1)/\U64 (limb v5 2)/\U64 (limb v5 3)/\U64 (limb v18 0)/\U64 (limb v18 1)/\U64 (limb v18 2)/\U64 (limb v18 3))/\∀ v20,v20=tI (val4 (limb v5 0) (limb v5 1) (limb v5 2) (limb v5 3)) (val4 (limb v18 0) (limb v18 1) (limb v18 2) (limb v18 3))->(U64 (limb v12 0)/\U64 (limb v12 1)/\U64 (limb v12 2)/\U64 (limb v12 3)/\U64 (limb v12 0)/\U64 (limb v12 1)/\U64 (limb v12 2)/\U64 (limb v12 3))/\∀ v21,v21=tI (val4 (limb v12 0) (limb v12 1) (limb v12 2) (limb v12 3)) (val4 (limb v12 0) (limb v12 1) (limb v12 2) (limb v12 3))->(U64 (limb v21 0)/\U64 (limb v21 1)/\U64 (limb v21 2)/\U64 (limb v21 3)/\U64 (limb v19 0)/\U64 (limb v19 1)/\U64 (limb v19 2)/\U64 (limb v19 3))/\∀ v22,v22=sI (val4 (limb v21 0) (limb v21 1) (limb v21 2) (limb v21 3)) (val4 (limb v19 0) (limb v19 1) (limb v19 2) (limb v19 3))->(U64 (limb v20 0)/\U64 (limb v20 1)/\U64 (limb v20 2)/\U64 (limb v20 3)/\U64 (limb v20 0)/\U64 (limb v20 1)/\U64 (limb v20 2)/\U64 (limb v20 3))/\∀ v23,v23=aI (val4 (limb v20 0) (limb v20 1) (limb v20 2) (limb v20 3)) (val4 (limb v20 0) (limb v20 1) (limb v20 2) (limb v20 3))->(U64 (limb v22 0)/\U64 (limb v22 1)/\U64 (limb v22 2)/\U64 (limb v22 3)/\U64 (limb v23 0)/\U64 (limb v23 1)/\U64 (limb v23 2)/\U64 (limb v23 3))/\∀ v24,v24=sI (val4 (limb v22 0) (limb v22 1) (limb v22 2) (limb v22 3)) (val4 (limb v23 0) (limb v23 1) (limb v23 2) (limb v23 3))->(U64 (limb v20 0)/\U64 (limb v20 1)/\U64 (limb v20 2)/\U64 (limb v20 3)/\U64 (limb v24 0)/\U64 (limb v24 1)/\U64 (limb v24 2)/\U64 (limb v24 3))/\∀ v25,v25=sI (val4 (limb v20 0) (limb v20 1) (limb v20 2) (limb v20 3)) (val4 (limb v24 0) (limb v24 1) (limb v24 2) (limb v24 3))->(U64 (limb v12 0)/\U64 (limb v12 1)/\U64 (limb v12 2)/\U64 (limb v12 3)/\U64 (limb v25 0)/\U64 (limb v25 1)/\U64 (limb v25 2)/\U64 (limb v25 3))/\∀ v26,v26=tI (val4 (limb v12 0) (limb v12 1) (limb v12 2) (limb v12 3)) (val4 (limb v25 0) (limb v25 1) (limb v25 2) (limb v25 3))->(U64 (limb v9 0)/\U64 (limb v9 1)/\U64 (limb v9 2)/\U64 (limb v9 3)/\U64 (limb v19 0)/\U64 (limb v19 1)/\U64 (limb v19 2)/\U64 (limb v19 3))/\∀ v27,v27=tI (val4 (limb v9 0) (limb v9 1) (limb v9 2) (limb v9 3)) (val4 (limb v19 0) (limb v19 1) (limb v19 2) (limb v19 3))->(U64 (limb v26 0)/\U64 (limb v26 1)/\U64 (limb v26 2)/\U64 (limb v26 3)/\U64 (limb v27 0)/\U64 (limb v27 1)/\U64 (limb v27 2)/\U64 (limb v27 3))/\∀ v28,v28=sI (val4 (limb v26 0) (limb v26 1) (limb v26 2) (limb v26 3)) (val4 (limb v27 0) (limb v27 1) (limb v27 2) (limb v27 3))->(U64 az0/\U64 az1/\U64 az2/\U64 az3/\U64 bz0/\U64 bz1/\U64 bz2/\U64 bz3)/\∀ v29,v29=tI (val4 az0 az1 az2 az3) (val4 bz0 bz1 bz2 bz3)->(U64 (limb v7 0)/\U64 (limb v7 1)/\U64 (limb v7 2)/\U64 (limb v7 3)/\U64 (limb v29 0)/\U64 (limb v29 1)/\U64 (limb v29 2)/\U64 (limb v29 3))/\∀ v30,v30=tI (val4 (limb v7 0) (limb v7 1) (limb v7 2) (limb v7 3)) (val4 (limb v29 0) (limb v29 1) (limb v29 2) (limb v29 3))->(IntKind.u64=IntKind.u64/\limb v24 0=limb (plJ (val4 ax0 ax1 ax2 ax3,val4 ay0 ay1 ay2 ay3,val4 az0 az1 az2 az3) (val4 bx0 bx1 bx2 bx3,val4 by0 by1 by2 by3,val4 bz0 bz1 bz2 bz3)).fst 0)/\(IntKind.u64=IntKind.u64/\limb v24 1=limb (plJ (val4 ax0 ax1 ax2 ax3,val4 ay0 ay1 ay2 ay3,val4 az0 az1 az2 az3) (val4 bx0 bx1 bx2 bx3,val4 by0 by1 by2 by3,val4 bz0 bz1 bz2 bz3)).fst 1)/\(IntKind.u64=IntKind.u64/\limb v24 2=limb (plJ (val4 ax0 ax1 ax2 ax3,val4 ay0 ay1 ay2 ay3,val4 az0 az1 az2 az3) (val4 bx0 bx1 bx2 bx3,val4 by0 by1 by2 by3,val4 bz0 bz1 bz2 bz3)).fst 2)/\(IntKind.u64=IntKind.u64/\limb v24 3=limb (plJ (val4 ax0 ax1 ax2 ax3,val4 ay0 ay1 ay2 ay3,val4 az0 az1 az2 az3) (val4 bx0 bx1 bx2 bx3,val4 by0 by1 by2 by3,val4 bz0 bz1 bz2 bz3)).fst 3)/\(IntKind.u64=IntKind.u64/\limb v28 0=limb (plJ (val4 ax0 ax1 ax2 ax3,val4 ay0 ay1 ay2 ay3,val4 az0 az1 az2 az3) (val4 bx0 bx1 bx2 bx3,val4 by0 by1 by2 by3,val4 bz0 bz1 bz2 bz3)).snd.fst 0)/\(IntKind.u64=IntKind.u64/\limb v28 1=limb (plJ (val4 ax0 ax1 ax2 ax3,val4 ay0 ay1 ay2 ay3,val4 az0 az1 az2 az3) (val4 bx0 bx1 bx2 bx3,val4 by0 by1 by2 by3,val4 bz0 bz1 bz2 bz3)).snd.fst 1)/\(IntKind.u64=IntKind.u64/\limb v28 2=limb (plJ (val4 ax0 ax1 ax2 ax3,val4 ay0 ay1 ay2 ay3,val4 az0 az1 az2 az3) (val4 bx0 bx1 bx2 bx3,val4 by0 by1 by2 by3,val4 bz0 bz1 bz2 bz3)).snd.fst 2)/\(IntKind.u64=IntKind.u64/\limb v28 3=limb (plJ (val4 ax0 ax1 ax2 ax3,val4 ay0 ay1 ay2 ay3,val4 az0 az1 az2 az3) (val4 bx0 bx1 bx2 bx3,val4 by0 by1 by2 by3,val4 bz0 bz1 bz2 bz3)).snd.fst 3)/\(IntKind.u64=IntKind.u64/\limb v30 0=limb (plJ (val4 ax0 ax1 ax2 ax3,val4 ay0 ay1 ay2 ay3,val4 az0 az1 az2 az3) (val4 bx0 bx1 bx2 bx3,val4 by0 by1 by2 by3,val4 bz0 bz1 bz2 bz3)).snd.snd 0)/\(IntKind.u64=IntKind.u64/\limb v30 1=limb (plJ (val4 ax0 ax1 ax2 ax3,val4 ay0 ay1 ay2 ay3,val4 az0 az1 az2 az3) (val4 bx0 bx1 bx2 bx3,val4 by0 by1 by2 by3,val4 bz0 bz1 bz2 bz3)).snd.snd 1)/\(IntKind.u64=IntKind.u64/\limb v30 2=limb (plJ (val4 ax0 ax1 ax2 ax3,val4 ay0 ay1 ay2 ay3,val4 az0 az1 az2 az3) (val4 bx0 bx1 bx2 bx3,val4 by0 by1 by2 by3,val4 bz0 bz1 bz2 bz3)).snd.snd 2)/\(IntKind.u64=IntKind.u64/\limb v30 3=limb (plJ (val4 ax0 ax1 ax2 ax3,val4 ay0 ay1 ay2 ay3,val4 az0 az1 az2 az3) (val4 bx0 bx1 bx2 bx3,val4 by0 by1 by2 by3,val4 bz0 bz1 bz2 bz3)).snd.snd 3)/\True)))
theorem tieRPlus (w0:World) (ax0:Int) (ax1:Int) (ax2:Int) (ax3:Int) (ay0:Int) (ay1:Int) (ay2:Int) (ay3:Int) (az0:Int) (az1:Int) (az2:Int) (az3:Int) (bx0:Int) (bx1:Int) (bx2:Int) (bx3:Int) (by0:Int) (by1:Int) (by2:Int) (by3:Int) (bz0:Int) (bz1:Int) (bz2:Int) (bz3:Int):VCRPlus ax0 ax1 ax2 ax3 ay0 ay1 ay2 ay3 az0 az1 az2 az3 bx0 bx1 bx2 bx3 by0 by1 by2 by3 bz0 bz1 bz2 bz3=((recN (GC Tryz.prog rf2Spec w0) 40).call 43 [.agg [.int .u64 (.sym ax0),.int .u64 (.sym ax1),.int .u64 (.sym ax2),.int .u64 (.sym ax3),.int .u64 (.sym ay0),.int .u64 (.sym ay1),.int .u64 (.sym ay2),.int .u64 (.sym ay3),.int .u64 (.sym az0),.int .u64 (.sym az1),.int .u64 (.sym az2),.int .u64 (.sym az3)],.agg [.int .u64 (.sym bx0),.int .u64 (.sym bx1),.int .u64 (.sym bx2),.int .u64 (.sym bx3),.int .u64 (.sym by0),.int .u64 (.sym by1),.int .u64 (.sym by2),.int .u64 (.sym by3),.int .u64 (.sym bz0),.int .u64 (.sym bz1),.int .u64 (.sym bz2),.int .u64 (.sym bz3)]] [] (fun r__ _=>eqV r__ (.agg [.int .u64 (.sym (limb ((plJ (val4 ax0 ax1 ax2 ax3,val4 ay0 ay1 ay2 ay3,val4 az0 az1 az2 az3) (val4 bx0 bx1 bx2 bx3,val4 by0 by1 by2 by3,val4 bz0 bz1 bz2 bz3)).1) 0)),.int .u64 (.sym (limb ((plJ (val4 ax0 ax1 ax2 ax3,val4 ay0 ay1 ay2 ay3,val4 az0 az1 az2 az3) (val4 bx0 bx1 bx2 bx3,val4 by0 by1 by2 by3,val4 bz0 bz1 bz2 bz3)).1) 1)),.int .u64 (.sym (limb ((plJ (val4 ax0 ax1 ax2 ax3,val4 ay0 ay1 ay2 ay3,val4 az0 az1 az2 az3) (val4 bx0 bx1 bx2 bx3,val4 by0 by1 by2 by3,val4 bz0 bz1 bz2 bz3)).1) 2)),.int .u64 (.sym (limb ((plJ (val4 ax0 ax1 ax2 ax3,val4 ay0 ay1 ay2 ay3,val4 az0 az1 az2 az3) (val4 bx0 bx1 bx2 bx3,val4 by0 by1 by2 by3,val4 bz0 bz1 bz2 bz3)).1) 3)),.int .u64 (.sym (limb ((plJ (val4 ax0 ax1 ax2 ax3,val4 ay0 ay1 ay2 ay3,val4 az0 az1 az2 az3) (val4 bx0 bx1 bx2 bx3,val4 by0 by1 by2 by3,val4 bz0 bz1 bz2 bz3)).2.1) 0)),.int .u64 (.sym (limb ((plJ (val4 ax0 ax1 ax2 ax3,val4 ay0 ay1 ay2 ay3,val4 az0 az1 az2 az3) (val4 bx0 bx1 bx2 bx3,val4 by0 by1 by2 by3,val4 bz0 bz1 bz2 bz3)).2.1) 1)),.int .u64 (.sym (limb ((plJ (val4 ax0 ax1 ax2 ax3,val4 ay0 ay1 ay2 ay3,val4 az0 az1 az2 az3) (val4 bx0 bx1 bx2 bx3,val4 by0 by1 by2 by3,val4 bz0 bz1 bz2 bz3)).2.1) 2)),.int .u64 (.sym (limb ((plJ (val4 ax0 ax1 ax2 ax3,val4 ay0 ay1 ay2 ay3,val4 az0 az1 az2 az3) (val4 bx0 bx1 bx2 bx3,val4 by0 by1 by2 by3,val4 bz0 bz1 bz2 bz3)).2.1) 3)),.int .u64 (.sym (limb ((plJ (val4 ax0 ax1 ax2 ax3,val4 ay0 ay1 ay2 ay3,val4 az0 az1 az2 az3) (val4 bx0 bx1 bx2 bx3,val4 by0 by1 by2 by3,val4 bz0 bz1 bz2 bz3)).2.2) 0)),.int .u64 (.sym (limb ((plJ (val4 ax0 ax1 ax2 ax3,val4 ay0 ay1 ay2 ay3,val4 az0 az1 az2 az3) (val4 bx0 bx1 bx2 bx3,val4 by0 by1 by2 by3,val4 bz0 bz1 bz2 bz3)).2.2) 1)),.int .u64 (.sym (limb ((plJ (val4 ax0 ax1 ax2 ax3,val4 ay0 ay1 ay2 ay3,val4 az0 az1 az2 az3) (val4 bx0 bx1 bx2 bx3,val4 by0 by1 by2 by3,val4 bz0 bz1 bz2 bz3)).2.2) 2)),.int .u64 (.sym (limb ((plJ (val4 ax0 ax1 ax2 ax3,val4 ay0 ay1 ay2 ay3,val4 az0 az1 az2 az3) (val4 bx0 bx1 bx2 bx3,val4 by0 by1 by2 by3,val4 bz0 bz1 bz2 bz3)).2.2) 3))]))):=by kernel_rfl
theorem pureRPlus (ax0 ax1 ax2 ax3 ay0 ay1 ay2 ay3 az0 az1 az2 az3 bx0 bx1 bx2 bx3 by0 by1 by2 by3 bz0 bz1 bz2 bz3:Int) (h:U64 ax0/\U64 ax1/\U64 ax2/\U64 ax3/\U64 ay0/\U64 ay1/\U64 ay2/\U64 ay3/\U64 az0/\U64 az1/\U64 az2/\U64 az3/\U64 bx0/\U64 bx1/\U64 bx2/\U64 bx3/\U64 by0/\U64 by1/\U64 by2/\U64 by3/\U64 bz0/\U64 bz1/\U64 bz2/\U64 bz3):VCRPlus ax0 ax1 ax2 ax3 ay0 ay1 ay2 ay3 az0 az1 az2 az3 bx0 bx1 bx2 bx3 by0 by1 by2 by3 bz0 bz1 bz2 bz3:=by
 obtain ⟨hax0,hax1,hax2,hax3,hay0,hay1,hay2,hay3,haz0,haz1,haz2,haz3,hbx0,hbx1,hbx2,hbx3,hby0,hby1,hby2,hby3,hbz0,hbz1,hbz2,hbz3⟩:=h
 have eax0:U64 ax0=True:=eq_true hax0
 have eax1:U64 ax1=True:=eq_true hax1
 have eax2:U64 ax2=True:=eq_true hax2
 have eax3:U64 ax3=True:=eq_true hax3
 have eay0:U64 ay0=True:=eq_true hay0
 have eay1:U64 ay1=True:=eq_true hay1
 have eay2:U64 ay2=True:=eq_true hay2
 have eay3:U64 ay3=True:=eq_true hay3
 have eaz0:U64 az0=True:=eq_true haz0
 have eaz1:U64 az1=True:=eq_true haz1
 have eaz2:U64 az2=True:=eq_true haz2
 have eaz3:U64 az3=True:=eq_true haz3
 have ebx0:U64 bx0=True:=eq_true hbx0
 have ebx1:U64 bx1=True:=eq_true hbx1
 have ebx2:U64 bx2=True:=eq_true hbx2
 have ebx3:U64 bx3=True:=eq_true hbx3
 have eby0:U64 by0=True:=eq_true hby0
 have eby1:U64 by1=True:=eq_true hby1
 have eby2:U64 by2=True:=eq_true hby2
 have eby3:U64 by3=True:=eq_true hby3
 have ebz0:U64 bz0=True:=eq_true hbz0
 have ebz1:U64 bz1=True:=eq_true hbz1
 have ebz2:U64 bz2=True:=eq_true hbz2
 have ebz3:U64 bz3=True:=eq_true hbz3
 obtain ⟨lax0,lax1,lax2,lax3⟩:=limbs4' hax0 hax1 hax2 hax3
 obtain ⟨lay0,lay1,lay2,lay3⟩:=limbs4' hay0 hay1 hay2 hay3
 obtain ⟨laz0,laz1,laz2,laz3⟩:=limbs4' haz0 haz1 haz2 haz3
 obtain ⟨lbx0,lbx1,lbx2,lbx3⟩:=limbs4' hbx0 hbx1 hbx2 hbx3
 obtain ⟨lby0,lby1,lby2,lby3⟩:=limbs4' hby0 hby1 hby2 hby3
 obtain ⟨lbz0,lbz1,lbz2,lbz3⟩:=limbs4' hbz0 hbz1 hbz2 hbz3
 have z0:U64 0=True:=eq_true U64_0
 have z1:U64 1=True:=eq_true U64_1
 have z2:U64 2=True:=eq_true (by decide)
 intro v1 h1
 rw [eq4 haz0 haz1 haz2 haz3 U64_0 U64_0 U64_0 U64_0] at h1
 refine brX (fun c1=>?_) (fun c1 v2 h2=>?_) v1 h1
 ·rw [pj_b c1]; exact ⟨⟨rfl,lbx0.symm⟩,⟨rfl,lbx1.symm⟩,⟨rfl,lbx2.symm⟩,⟨rfl,lbx3.symm⟩,⟨rfl,lby0.symm⟩,⟨rfl,lby1.symm⟩,⟨rfl,lby2.symm⟩,⟨rfl,lby3.symm⟩,⟨rfl,lbz0.symm⟩,⟨rfl,lbz1.symm⟩,⟨rfl,lbz2.symm⟩,⟨rfl,lbz3.symm⟩,trivial⟩
 ·rw [eq4 hbz0 hbz1 hbz2 hbz3 U64_0 U64_0 U64_0 U64_0] at h2
  have c1:¬ val4 az0 az1 az2 az3=0:=c1
  refine brX (fun c2=>?_) (fun c2=>?_) v2 h2
  ·rw [pj_a c1 c2]; exact ⟨⟨rfl,lax0.symm⟩,⟨rfl,lax1.symm⟩,⟨rfl,lax2.symm⟩,⟨rfl,lax3.symm⟩,⟨rfl,lay0.symm⟩,⟨rfl,lay1.symm⟩,⟨rfl,lay2.symm⟩,⟨rfl,lay3.symm⟩,⟨rfl,laz0.symm⟩,⟨rfl,laz1.symm⟩,⟨rfl,laz2.symm⟩,⟨rfl,laz3.symm⟩,trivial⟩
  ·have c2:¬ val4 bz0 bz1 bz2 bz3=0:=c2
   simp only [forall_eq,ulP,ltI,laI,lsI,ds0,decide_eq_true_eq,decide_eq_false_iff_not,eax0,eax1,eax2,eax3,eay0,eay1,eay2,eay3,eaz0,eaz1,eaz2,eaz3,ebx0,ebx1,ebx2,ebx3,eby0,eby1,eby2,eby3,ebz0,ebz1,ebz2,ebz3,z0,z1,z2,true_and,and_true]
   clear lax0 lax1 lax2 lax3 lay0 lay1 lay2 lay3 laz0 laz1 laz2 laz3 lbx0 lbx1 lbx2 lbx3 lby0 lby1 lby2 lby3 lbz0 lbz1 lbz2 lbz3
   generalize val4 ax0 ax1 ax2 ax3=AX at *
   generalize val4 ay0 ay1 ay2 ay3=AY at *
   generalize val4 az0 az1 az2 az3=AZ at *
   generalize val4 bx0 bx1 bx2 bx3=BX at *
   generalize val4 by0 by1 by2 by3=BY at *
   generalize val4 bz0 bz1 bz2 bz3=BZ at *
   refine ⟨fun hv=>⟨fun hu=>?_,fun hu=>?_⟩,fun hv=>?_⟩
   ·have e:plJ (AX,AY,AZ) (BX,BY,BZ)=twJ (AX,AY,AZ):=by
     unfold plJ
     simp only [if_neg c1,if_neg c2,if_pos hv,if_pos hu]
    rw [e]
    simp only [and_self]
   ·have e:plJ (AX,AY,AZ) (BX,BY,BZ)=(1,1,0):=by
     unfold plJ
     simp only [if_neg c1,if_neg c2,if_pos hv,if_neg hu]
    rw [e]
    decide +kernel
   ·simp only [plJ,if_neg c1,if_neg c2,if_neg hv,and_self]
theorem rPlus_ok:SpecOk Tryz.prog 43 rPlusSpec:=by
 intro args k h
 unfold rPlusSpec at h
 split at h
 ·rename_i ax0 ax1 ax2 ax3 ay0 ay1 ay2 ay3 az0 az1 az2 az3 bx0 bx1 bx2 bx3 by0 by1 by2 by3 bz0 bz1 bz2 bz3
  obtain ⟨hr,h⟩:=h
  exact ⟨_,h _ rfl _ rfl _ rfl,PureOk.of_tie (GC Tryz.prog rf2Spec) (fun w__=>gok w__ namesOk_ mixed_ rf2_ok) (fun _=>rfl) (fun _=>rfl) (args':=[.agg [.int .u64 (.sym ax0.val),.int .u64 (.sym ax1.val),.int .u64 (.sym ax2.val),.int .u64 (.sym ax3.val),.int .u64 (.sym ay0.val),.int .u64 (.sym ay1.val),.int .u64 (.sym ay2.val),.int .u64 (.sym ay3.val),.int .u64 (.sym az0.val),.int .u64 (.sym az1.val),.int .u64 (.sym az2.val),.int .u64 (.sym az3.val)],.agg [.int .u64 (.sym bx0.val),.int .u64 (.sym bx1.val),.int .u64 (.sym bx2.val),.int .u64 (.sym bx3.val),.int .u64 (.sym by0.val),.int .u64 (.sym by1.val),.int .u64 (.sym by2.val),.int .u64 (.sym by3.val),.int .u64 (.sym bz0.val),.int .u64 (.sym bz1.val),.int .u64 (.sym bz2.val),.int .u64 (.sym bz3.val)]]) ⟨⟨⟨rfl,rfl⟩,⟨rfl,rfl⟩,⟨rfl,rfl⟩,⟨rfl,rfl⟩,⟨rfl,rfl⟩,⟨rfl,rfl⟩,⟨rfl,rfl⟩,⟨rfl,rfl⟩,⟨rfl,rfl⟩,⟨rfl,rfl⟩,⟨rfl,rfl⟩,⟨rfl,rfl⟩,trivial⟩,⟨⟨rfl,rfl⟩,⟨rfl,rfl⟩,⟨rfl,rfl⟩,⟨rfl,rfl⟩,⟨rfl,rfl⟩,⟨rfl,rfl⟩,⟨rfl,rfl⟩,⟨rfl,rfl⟩,⟨rfl,rfl⟩,⟨rfl,rfl⟩,⟨rfl,rfl⟩,⟨rfl,rfl⟩,trivial⟩,trivial⟩ 40 (fun w__=>VCRPlus ax0.val ax1.val ax2.val ax3.val ay0.val ay1.val ay2.val ay3.val az0.val az1.val az2.val az3.val bx0.val bx1.val bx2.val bx3.val by0.val by1.val by2.val by3.val bz0.val bz1.val bz2.val bz3.val) (fun w__=>tieRPlus w__ ax0.val ax1.val ax2.val ax3.val ay0.val ay1.val ay2.val ay3.val az0.val az1.val az2.val az3.val bx0.val bx1.val bx2.val bx3.val by0.val by1.val by2.val by3.val bz0.val bz1.val bz2.val bz3.val) (fun w__=>pureRPlus ax0.val ax1.val ax2.val ax3.val ay0.val ay1.val ay2.val ay3.val az0.val az1.val az2.val az3.val bx0.val bx1.val bx2.val bx3.val by0.val by1.val by2.val by3.val bz0.val bz1.val bz2.val bz3.val hr)⟩
 ·exact h.elim

end Go.Proofs.YtaaobpalpcdlbaaGreat.Bits
namespace Go.Proofs.YtaaobpalpcdlbaaGreat.Bits
open Go Go.Sx Go.RowKit Go.EC
set_option linter.unusedVariables false
set_option linter.unusedSimpArgs false
set_option maxRecDepth 100000
def msN (k L:Int) (A:Sol):Nat->Sol
 | 0=>(1,1,0)
 | n+1=>if bitF k (L-1-n)=1 then plJ (twJ (msN k L A n)) A else twJ (msN k L A n)
def mulJ (k:Int) (A:Sol):Sol:=msN k (lenF k) A (lenF k).toNat
def triSpec (S:St) (b:Nat) (s:Sol):St:=setWSpec (setWSpec (setWSpec S b 0 (limb s.1) 4) b 4 (limb s.2.1) 4) b 8 (limb s.2.2) 4
def mulASpec:St->Inv:=fun S =>
 {ι:=Int×Sol
  T:=fun p=>stS (keepS (triSpec S 3 p.2) [2,3,4,5]) [(6,.int .i64 (.sym p.1))]
  R:=fun p=>(-1<=p.1/\p.1<=lenF (val4 (hat S 0 0) (hat S 0 1) (hat S 0 2) (hat S 0 3))-1)/\p.2=msN (val4 (hat S 0 0) (hat S 0 1) (hat S 0 2) (hat S 0 3)) (lenF (val4 (hat S 0 0) (hat S 0 1) (hat S 0 2) (hat S 0 3))) (val4 (hat S 1 0) (hat S 1 1) (hat S 1 2) (hat S 1 3),val4 (hat S 1 4) (hat S 1 5) (hat S 1 6) (hat S 1 7),val4 (hat S 1 8) (hat S 1 9) (hat S 1 10) (hat S 1 11)) (lenF (val4 (hat S 0 0) (hat S 0 1) (hat S 0 2) (hat S 0 3))-1-p.1).toNat
  μ:=fun p=>(p.1+1).toNat }
def mulAnnSpec:Anns:=[(41,0,mulASpec)]
def mulCutSpec:Anns:=[]
def rf3Spec:List (FuncId×CSpec):=[(79,rTwiceSpec),(43,rPlusSpec),(78,rLenSpec),(80,rBitSpec)]
theorem rf3_ok:SpecsOk Tryz.prog rf3Spec:=⟨rTwice_ok,rPlus_ok,rLen_ok,rBit_ok,trivial⟩
theorem inB_j0:inB (1,1,0):=by unfold inB; decide
theorem inB_tj (a:Sol):inB (twJ a):=by
 unfold twJ
 split
 ·exact inB_j0
 ·exact ⟨inPB _,inPB _,inPB _⟩
theorem inB_pj {a b:Sol} (ha:inB a) (hb:inB b):inB (plJ a b):=by
 unfold plJ
 split
 ·exact hb
 ·split
  ·exact ha
  ·dsimp only
   split
   ·split
    ·exact inB_tj _
    ·exact inB_j0
   ·exact ⟨inPB _,inPB _,inPB _⟩
theorem inB_ms {k L:Int} {A:Sol} (ha:inB A):∀ n,inB (msN k L A n)
 | 0=>inB_j0
 | n+1=>by
  simp only [msN]
  split
  ·exact inB_pj (inB_tj _) ha
  ·exact inB_tj _
theorem ms_step {k L i:Int} {A:Sol} (h0:0<=i) (h1:i<=L-1):msN k L A (L-1-(i-1)).toNat=if bitF k i=1 then plJ (twJ (msN k L A (L-1-i).toNat)) A else twJ (msN k L A (L-1-i).toNat):=by
 have e:(L-1-(i-1)).toNat=(L-1-i).toNat+1:=by omega
 have e2:L-1-((L-1-i).toNat:Int)=i:=by omega
 rw [e]
 simp only [msN,e2]
def rMultipleSpec:CSpec
 | [.agg [.int .u64 k0,.int .u64 k1,.int .u64 k2,.int .u64 k3],.agg [.int .u64 ax0,.int .u64 ax1,.int .u64 ax2,.int .u64 ax3,.int .u64 ay0,.int .u64 ay1,.int .u64 ay2,.int .u64 ay3,.int .u64 az0,.int .u64 az1,.int .u64 az2,.int .u64 az3]],k=>((U64 k0.val)/\(U64 k1.val)/\(U64 k2.val)/\(U64 k3.val)/\(U64 ax0.val)/\(U64 ax1.val)/\(U64 ax2.val)/\(U64 ax3.val)/\(U64 ay0.val)/\(U64 ay1.val)/\(U64 ay2.val)/\(U64 ay3.val)/\(U64 az0.val)/\(U64 az1.val)/\(U64 az2.val)/\(U64 az3.val))/\(∀ r0:Int,r0=((mulJ (val4 k0.val k1.val k2.val k3.val) (val4 ax0.val ax1.val ax2.val ax3.val,val4 ay0.val ay1.val ay2.val ay3.val,val4 az0.val az1.val az2.val az3.val)).1)->∀ r1:Int,r1=((mulJ (val4 k0.val k1.val k2.val k3.val) (val4 ax0.val ax1.val ax2.val ax3.val,val4 ay0.val ay1.val ay2.val ay3.val,val4 az0.val az1.val az2.val az3.val)).2.1)->∀ r2:Int,r2=((mulJ (val4 k0.val k1.val k2.val k3.val) (val4 ax0.val ax1.val ax2.val ax3.val,val4 ay0.val ay1.val ay2.val ay3.val,val4 az0.val az1.val az2.val az3.val)).2.2)->k (.agg [.int .u64 (.sym (limb r0 0)),.int .u64 (.sym (limb r0 1)),.int .u64 (.sym (limb r0 2)),.int .u64 (.sym (limb r0 3)),.int .u64 (.sym (limb r1 0)),.int .u64 (.sym (limb r1 1)),.int .u64 (.sym (limb r1 2)),.int .u64 (.sym (limb r1 3)),.int .u64 (.sym (limb r2 0)),.int .u64 (.sym (limb r2 1)),.int .u64 (.sym (limb r2 2)),.int .u64 (.sym (limb r2 3))]))
 | _,_=>False
def VCRMultiple (k0:Int) (k1:Int) (k2:Int) (k3:Int) (ax0:Int) (ax1:Int) (ax2:Int) (ax3:Int) (ay0:Int) (ay1:Int) (ay2:Int) (ay3:Int) (az0:Int) (az1:Int) (az2:Int) (az3:Int):Prop :=
 (U64 k0/\U64 k1/\U64 k2/\U64 k3)/\∀ v1,v1=lenF (val4 k0 k1 k2 k3)->∀ v2,v2=IntKind.i64.wrap (v1-(1:Int))->(∃ (x3:Int×Sol),(((-1:Int)<=x3.fst/\x3.fst<=lenF (val4 k0 k1 k2 k3)-(1:Int))/\x3.snd=msN (val4 k0 k1 k2 k3) (lenF (val4 k0 k1 k2 k3)) (val4 ax0 ax1 ax2 ax3,val4 ay0 ay1 ay2 ay3,val4 az0 az1 az2 az3) (lenF (val4 k0 k1 k2 k3)-(1:Int)-x3.fst).toNat)/\(True/\True/\True/\True/\v2=x3.fst/\True)/\(k0=k0/\k1=k1/\k2=k2/\k3=k3/\True)/\(ax0=ax0/\ax1=ax1/\ax2=ax2/\ax3=ax3/\ay0=ay0/\ay1=ay1/\ay2=ay2/\ay3=ay3/\az0=az0/\az1=az1/\az2=az2/\az3=az3/\True)/\((0:Int)=(0:Int)/\(0:Int)=(0:Int)/\(0:Int)=(0:Int)/\(0:Int)=(0:Int)/\(0:Int)=(0:Int)/\(0:Int)=(0:Int)/\(0:Int)=(0:Int)/\(0:Int)=(0:Int)/\(0:Int)=(0:Int)/\(0:Int)=(0:Int)/\(0:Int)=(0:Int)/\(0:Int)=(0:Int)/\True)/\((1:Int)=limb x3.snd.fst 0/\(0:Int)=limb x3.snd.fst 1/\(0:Int)=limb x3.snd.fst 2/\(0:Int)=limb x3.snd.fst 3/\(1:Int)=limb x3.snd.snd.fst 0/\(0:Int)=limb x3.snd.snd.fst 1/\(0:Int)=limb x3.snd.snd.fst 2/\(0:Int)=limb x3.snd.snd.fst 3/\(0:Int)=limb x3.snd.snd.snd 0/\(0:Int)=limb x3.snd.snd.snd 1/\(0:Int)=limb x3.snd.snd.snd 2/\(0:Int)=limb x3.snd.snd.snd 3/\True)/\True)/\∀ (v4:Int×Sol),((-1:Int)<=v4.fst/\v4.fst<=lenF (val4 k0 k1 k2 k3)-(1:Int))/\v4.snd=msN (val4 k0 k1 k2 k3) (lenF (val4 k0 k1 k2 k3)) (val4 ax0 ax1 ax2 ax3,val4 ay0 ay1 ay2 ay3,val4 az0 az1 az2 az3) (lenF (val4 k0 k1 k2 k3)-(1:Int)-v4.fst).toNat->∀ v5,v5=decide (v4.fst>=(0:Int))->(v5=true->(U64 (limb v4.snd.fst 0)/\U64 (limb v4.snd.fst 1)/\U64 (limb v4.snd.fst 2)/\U64 (limb v4.snd.fst 3)/\U64 (limb v4.snd.snd.fst 0)/\U64 (limb v4.snd.snd.fst 1)/\U64 (limb v4.snd.snd.fst 2)/\U64 (limb v4.snd.snd.fst 3)/\U64 (limb v4.snd.snd.snd 0)/\U64 (limb v4.snd.snd.snd 1)/\U64 (limb v4.snd.snd.snd 2)/\U64 (limb v4.snd.snd.snd 3))/\∀ v6,v6=(twJ (val4 (limb v4.snd.fst 0) (limb v4.snd.fst 1) (limb v4.snd.fst 2) (limb v4.snd.fst 3),val4 (limb v4.snd.snd.fst 0) (limb v4.snd.snd.fst 1) (limb v4.snd.snd.fst 2) (limb v4.snd.snd.fst 3),val4 (limb v4.snd.snd.snd 0) (limb v4.snd.snd.snd 1) (limb v4.snd.snd.snd 2) (limb v4.snd.snd.snd 3))).fst->∀ v7,v7=(twJ (val4 (limb v4.snd.fst 0) (limb v4.snd.fst 1) (limb v4.snd.fst 2) (limb v4.snd.fst 3),val4 (limb v4.snd.snd.fst 0) (limb v4.snd.snd.fst 1) (limb v4.snd.snd.fst 2) (limb v4.snd.snd.fst 3),val4 (limb v4.snd.snd.snd 0) (limb v4.snd.snd.snd 1) (limb v4.snd.snd.snd 2) (limb v4.snd.snd.snd 3))).snd.fst->∀ v8,v8=(twJ (val4 (limb v4.snd.fst 0) (limb v4.snd.fst 1) (limb v4.snd.fst 2) (limb v4.snd.fst 3),val4 (limb v4.snd.snd.fst 0) (limb v4.snd.snd.fst 1) (limb v4.snd.snd.fst 2) (limb v4.snd.snd.fst 3),val4 (limb v4.snd.snd.snd 0) (limb v4.snd.snd.snd 1) (limb v4.snd.snd.snd 2) (limb v4.snd.snd.snd 3))).snd.snd->(U64 k0/\U64 k1/\U64 k2/\U64 k3/\I64 v4.fst)/\∀ v9,v9=bitF (val4 k0 k1 k2 k3) v4.fst->∀ v10,v10=(v9==(1:Int))->(v10=true->(U64 (limb v6 0)/\U64 (limb v6 1)/\U64 (limb v6 2)/\U64 (limb v6 3)/\U64 (limb v7 0)/\U64 (limb v7 1)/\U64 (limb v7 2)/\U64 (limb v7 3)/\U64 (limb v8 0)/\U64 (limb v8 1)/\U64 (limb v8 2)/\U64 (limb v8 3)/\U64 ax0/\U64 ax1/\U64 ax2/\U64 ax3/\U64 ay0/\U64 ay1/\U64 ay2/\U64 ay3/\U64 az0/\U64 az1/\U64 az2/\U64 az3)/\∀ v11,v11=(plJ (val4 (limb v6 0) (limb v6 1) (limb v6 2) (limb v6 3),val4 (limb v7 0) (limb v7 1) (limb v7 2) (limb v7 3),val4 (limb v8 0) (limb v8 1) (limb v8 2) (limb v8 3)) (val4 ax0 ax1 ax2 ax3,val4 ay0 ay1 ay2 ay3,val4 az0 az1 az2 az3)).fst->∀ v12,v12=(plJ (val4 (limb v6 0) (limb v6 1) (limb v6 2) (limb v6 3),val4 (limb v7 0) (limb v7 1) (limb v7 2) (limb v7 3),val4 (limb v8 0) (limb v8 1) (limb v8 2) (limb v8 3)) (val4 ax0 ax1 ax2 ax3,val4 ay0 ay1 ay2 ay3,val4 az0 az1 az2 az3)).snd.fst->∀ v13,v13=(plJ (val4 (limb v6 0) (limb v6 1) (limb v6 2) (limb v6 3),val4 (limb v7 0) (limb v7 1) (limb v7 2) (limb v7 3),val4 (limb v8 0) (limb v8 1) (limb v8 2) (limb v8 3)) (val4 ax0 ax1 ax2 ax3,val4 ay0 ay1 ay2 ay3,val4 az0 az1 az2 az3)).snd.snd->∀ v14,v14=IntKind.i64.wrap (v4.fst-(1:Int))->∃ (x15:Int×Sol),(((-1:Int)<=x15.fst/\x15.fst<=lenF (val4 k0 k1 k2 k3)-(1:Int))/\x15.snd=msN (val4 k0 k1 k2 k3) (lenF (val4 k0 k1 k2 k3)) (val4 ax0 ax1 ax2 ax3,val4 ay0 ay1 ay2 ay3,val4 az0 az1 az2 az3) (lenF (val4 k0 k1 k2 k3)-(1:Int)-x15.fst).toNat)/\((True/\True/\True/\True/\v14=x15.fst/\True)/\(k0=k0/\k1=k1/\k2=k2/\k3=k3/\True)/\(ax0=ax0/\ax1=ax1/\ax2=ax2/\ax3=ax3/\ay0=ay0/\ay1=ay1/\ay2=ay2/\ay3=ay3/\az0=az0/\az1=az1/\az2=az2/\az3=az3/\True)/\((0:Int)=(0:Int)/\(0:Int)=(0:Int)/\(0:Int)=(0:Int)/\(0:Int)=(0:Int)/\(0:Int)=(0:Int)/\(0:Int)=(0:Int)/\(0:Int)=(0:Int)/\(0:Int)=(0:Int)/\(0:Int)=(0:Int)/\(0:Int)=(0:Int)/\(0:Int)=(0:Int)/\(0:Int)=(0:Int)/\True)/\(limb v11 0=limb x15.snd.fst 0/\limb v11 1=limb x15.snd.fst 1/\limb v11 2=limb x15.snd.fst 2/\limb v11 3=limb x15.snd.fst 3/\limb v12 0=limb x15.snd.snd.fst 0/\limb v12 1=limb x15.snd.snd.fst 1/\limb v12 2=limb x15.snd.snd.fst 2/\limb v12 3=limb x15.snd.snd.fst 3/\limb v13 0=limb x15.snd.snd.snd 0/\limb v13 1=limb x15.snd.snd.snd 1/\limb v13 2=limb x15.snd.snd.snd 2/\limb v13 3=limb x15.snd.snd.snd 3/\True)/\True)/\(x15.fst+(1:Int)).toNat<(v4.fst+(1:Int)).toNat)/\(v10=false->∀ v16,v16=IntKind.i64.wrap (v4.fst-(1:Int))->∃ (x17:Int×Sol),(((-1:Int)<=x17.fst/\x17.fst<=lenF (val4 k0 k1 k2 k3)-(1:Int))/\x17.snd=msN (val4 k0 k1 k2 k3) (lenF (val4 k0 k1 k2 k3)) (val4 ax0 ax1 ax2 ax3,val4 ay0 ay1 ay2 ay3,val4 az0 az1 az2 az3) (lenF (val4 k0 k1 k2 k3)-(1:Int)-x17.fst).toNat)/\((True/\True/\True/\True/\v16=x17.fst/\True)/\(k0=k0/\k1=k1/\k2=k2/\k3=k3/\True)/\(ax0=ax0/\ax1=ax1/\ax2=ax2/\ax3=ax3/\ay0=ay0/\ay1=ay1/\ay2=ay2/\ay3=ay3/\az0=az0/\az1=az1/\az2=az2/\az3=az3/\True)/\((0:Int)=(0:Int)/\(0:Int)=(0:Int)/\(0:Int)=(0:Int)/\(0:Int)=(0:Int)/\(0:Int)=(0:Int)/\(0:Int)=(0:Int)/\(0:Int)=(0:Int)/\(0:Int)=(0:Int)/\(0:Int)=(0:Int)/\(0:Int)=(0:Int)/\(0:Int)=(0:Int)/\(0:Int)=(0:Int)/\True)/\(limb v6 0=limb x17.snd.fst 0/\limb v6 1=limb x17.snd.fst 1/\limb v6 2=limb x17.snd.fst 2/\limb v6 3=limb x17.snd.fst 3/\limb v7 0=limb x17.snd.snd.fst 0/\limb v7 1=limb x17.snd.snd.fst 1/\limb v7 2=limb x17.snd.snd.fst 2/\limb v7 3=limb x17.snd.snd.fst 3/\limb v8 0=limb x17.snd.snd.snd 0/\limb v8 1=limb x17.snd.snd.snd 1/\limb v8 2=limb x17.snd.snd.snd 2/\limb v8 3=limb x17.snd.snd.snd 3/\True)/\True)/\(x17.fst+(1:Int)).toNat<(v4.fst+(1:Int)).toNat))/\(v5=false->(IntKind.u64=IntKind.u64/\limb v4.snd.fst 0=limb (mulJ (val4 k0 k1 k2 k3) (val4 ax0 ax1 ax2 ax3,val4 ay0 ay1 ay2 ay3,val4 az0 az1 az2 az3)).fst 0)/\(IntKind.u64=IntKind.u64/\limb v4.snd.fst 1=limb (mulJ (val4 k0 k1 k2 k3) (val4 ax0 ax1 ax2 ax3,val4 ay0 ay1 ay2 ay3,val4 az0 az1 az2 az3)).fst 1)/\(IntKind.u64=IntKind.u64/\limb v4.snd.fst 2=limb (mulJ (val4 k0 k1 k2 k3) (val4 ax0 ax1 ax2 ax3,val4 ay0 ay1 ay2 ay3,val4 az0 az1 az2 az3)).fst 2)/\(IntKind.u64=IntKind.u64/\limb v4.snd.fst 3=limb (mulJ (val4 k0 k1 k2 k3) (val4 ax0 ax1 ax2 ax3,val4 ay0 ay1 ay2 ay3,val4 az0 az1 az2 az3)).fst 3)/\(IntKind.u64=IntKind.u64/\limb v4.snd.snd.fst 0=limb (mulJ (val4 k0 k1 k2 k3) (val4 ax0 ax1 ax2 ax3,val4 ay0 ay1 ay2 ay3,val4 az0 az1 az2 az3)).snd.fst 0)/\(IntKind.u64=IntKind.u64/\limb v4.snd.snd.fst 1=limb (mulJ (val4 k0 k1 k2 k3) (val4 ax0 ax1 ax2 ax3,val4 ay0 ay1 ay2 ay3,val4 az0 az1 az2 az3)).snd.fst 1)/\(IntKind.u64=IntKind.u64/\limb v4.snd.snd.fst 2=limb (mulJ (val4 k0 k1 k2 k3) (val4 ax0 ax1 ax2 ax3,val4 ay0 ay1 ay2 ay3,val4 az0 az1 az2 az3)).snd.fst 2)/\(IntKind.u64=IntKind.u64/\limb v4.snd.snd.fst 3=limb (mulJ (val4 k0 k1 k2 k3) (val4 ax0 ax1 ax2 ax3,val4 ay0 ay1 ay2 ay3,val4 az0 az1 az2 az3)).snd.fst 3)/\(IntKind.u64=IntKind.u64/\limb v4.snd.snd.snd 0=limb (mulJ (val4 k0 k1 k2 k3) (val4 ax0 ax1 ax2 ax3,val4 ay0 ay1 ay2 ay3,val4 az0 az1 az2 az3)).snd.snd 0)/\(IntKind.u64=IntKind.u64/\limb v4.snd.snd.snd 1=limb (mulJ (val4 k0 k1 k2 k3) (val4 ax0 ax1 ax2 ax3,val4 ay0 ay1 ay2 ay3,val4 az0 az1 az2 az3)).snd.snd 1)/\(IntKind.u64=IntKind.u64/\limb v4.snd.snd.snd 2=limb (mulJ (val4 k0 k1 k2 k3) (val4 ax0 ax1 ax2 ax3,val4 ay0 ay1 ay2 ay3,val4 az0 az1 az2 az3)).snd.snd 2)/\(IntKind.u64=IntKind.u64/\limb v4.snd.snd.snd 3=limb (mulJ (val4 k0 k1 k2 k3) (val4 ax0 ax1 ax2 ax3,val4 ay0 ay1 ay2 ay3,val4 az0 az1 az2 az3)).snd.snd 3)/\True)
theorem tieRMultiple (w0:World) (k0:Int) (k1:Int) (k2:Int) (k3:Int) (ax0:Int) (ax1:Int) (ax2:Int) (ax3:Int) (ay0:Int) (ay1:Int) (ay2:Int) (ay3:Int) (az0:Int) (az1:Int) (az2:Int) (az3:Int):VCRMultiple k0 k1 k2 k3 ax0 ax1 ax2 ax3 ay0 ay1 ay2 ay3 az0 az1 az2 az3=((recN (GL Tryz.prog rf3Spec mulAnnSpec mulCutSpec w0) 40).call 41 [.agg [.int .u64 (.sym k0),.int .u64 (.sym k1),.int .u64 (.sym k2),.int .u64 (.sym k3)],.agg [.int .u64 (.sym ax0),.int .u64 (.sym ax1),.int .u64 (.sym ax2),.int .u64 (.sym ax3),.int .u64 (.sym ay0),.int .u64 (.sym ay1),.int .u64 (.sym ay2),.int .u64 (.sym ay3),.int .u64 (.sym az0),.int .u64 (.sym az1),.int .u64 (.sym az2),.int .u64 (.sym az3)]] [] (fun r__ _=>eqV r__ (.agg [.int .u64 (.sym (limb ((mulJ (val4 k0 k1 k2 k3) (val4 ax0 ax1 ax2 ax3,val4 ay0 ay1 ay2 ay3,val4 az0 az1 az2 az3)).1) 0)),.int .u64 (.sym (limb ((mulJ (val4 k0 k1 k2 k3) (val4 ax0 ax1 ax2 ax3,val4 ay0 ay1 ay2 ay3,val4 az0 az1 az2 az3)).1) 1)),.int .u64 (.sym (limb ((mulJ (val4 k0 k1 k2 k3) (val4 ax0 ax1 ax2 ax3,val4 ay0 ay1 ay2 ay3,val4 az0 az1 az2 az3)).1) 2)),.int .u64 (.sym (limb ((mulJ (val4 k0 k1 k2 k3) (val4 ax0 ax1 ax2 ax3,val4 ay0 ay1 ay2 ay3,val4 az0 az1 az2 az3)).1) 3)),.int .u64 (.sym (limb ((mulJ (val4 k0 k1 k2 k3) (val4 ax0 ax1 ax2 ax3,val4 ay0 ay1 ay2 ay3,val4 az0 az1 az2 az3)).2.1) 0)),.int .u64 (.sym (limb ((mulJ (val4 k0 k1 k2 k3) (val4 ax0 ax1 ax2 ax3,val4 ay0 ay1 ay2 ay3,val4 az0 az1 az2 az3)).2.1) 1)),.int .u64 (.sym (limb ((mulJ (val4 k0 k1 k2 k3) (val4 ax0 ax1 ax2 ax3,val4 ay0 ay1 ay2 ay3,val4 az0 az1 az2 az3)).2.1) 2)),.int .u64 (.sym (limb ((mulJ (val4 k0 k1 k2 k3) (val4 ax0 ax1 ax2 ax3,val4 ay0 ay1 ay2 ay3,val4 az0 az1 az2 az3)).2.1) 3)),.int .u64 (.sym (limb ((mulJ (val4 k0 k1 k2 k3) (val4 ax0 ax1 ax2 ax3,val4 ay0 ay1 ay2 ay3,val4 az0 az1 az2 az3)).2.2) 0)),.int .u64 (.sym (limb ((mulJ (val4 k0 k1 k2 k3) (val4 ax0 ax1 ax2 ax3,val4 ay0 ay1 ay2 ay3,val4 az0 az1 az2 az3)).2.2) 1)),.int .u64 (.sym (limb ((mulJ (val4 k0 k1 k2 k3) (val4 ax0 ax1 ax2 ax3,val4 ay0 ay1 ay2 ay3,val4 az0 az1 az2 az3)).2.2) 2)),.int .u64 (.sym (limb ((mulJ (val4 k0 k1 k2 k3) (val4 ax0 ax1 ax2 ax3,val4 ay0 ay1 ay2 ay3,val4 az0 az1 az2 az3)).2.2) 3))]))):=by kernel_rfl
theorem pureRMultiple (k0 k1 k2 k3 ax0 ax1 ax2 ax3 ay0 ay1 ay2 ay3 az0 az1 az2 az3:Int) (h:U64 k0/\U64 k1/\U64 k2/\U64 k3/\U64 ax0/\U64 ax1/\U64 ax2/\U64 ax3/\U64 ay0/\U64 ay1/\U64 ay2/\U64 ay3/\U64 az0/\U64 az1/\U64 az2/\U64 az3):VCRMultiple k0 k1 k2 k3 ax0 ax1 ax2 ax3 ay0 ay1 ay2 ay3 az0 az1 az2 az3:=by
 obtain ⟨hk0,hk1,hk2,hk3,hax0,hax1,hax2,hax3,hay0,hay1,hay2,hay3,haz0,haz1,haz2,haz3⟩:=h
 have eax0:U64 ax0=True:=eq_true hax0
 have eax1:U64 ax1=True:=eq_true hax1
 have eax2:U64 ax2=True:=eq_true hax2
 have eax3:U64 ax3=True:=eq_true hax3
 have eay0:U64 ay0=True:=eq_true hay0
 have eay1:U64 ay1=True:=eq_true hay1
 have eay2:U64 ay2=True:=eq_true hay2
 have eay3:U64 ay3=True:=eq_true hay3
 have eaz0:U64 az0=True:=eq_true haz0
 have eaz1:U64 az1=True:=eq_true haz1
 have eaz2:U64 az2=True:=eq_true haz2
 have eaz3:U64 az3=True:=eq_true haz3
 have ek0:U64 k0=True:=eq_true hk0
 have ek1:U64 k1=True:=eq_true hk1
 have ek2:U64 k2=True:=eq_true hk2
 have ek3:U64 k3=True:=eq_true hk3
 have na:inB (val4 ax0 ax1 ax2 ax3,val4 ay0 ay1 ay2 ay3,val4 az0 az1 az2 az3):=⟨val4_lt hax0 hax1 hax2 hax3,val4_lt hay0 hay1 hay2 hay3,val4_lt haz0 haz1 haz2 haz3⟩
 have bk:=val4_lt hk0 hk1 hk2 hk3
 have lk:=lenF_lt bk.1
 have mk:=(lenF_bound bk.1 256 (by have:=bk.2; exact this)).2
 unfold VCRMultiple mulJ
 generalize hm:lenF (val4 k0 k1 k2 k3)=M at *
 have hw:IntKind.i64.wrap (M-1)=M-1:=i64_id (by omega) (by omega)
 simp only [forall_eq,ulP,ek0,ek1,ek2,ek3,eax0,eax1,eax2,eax3,eay0,eay1,eay2,eay3,eaz0,eaz1,eaz2,eaz3,hm,hw,true_and,and_true,and_self]
 refine ⟨⟨(M-1,(1,1,0)),⟨⟨by dsimp only; omega,by dsimp only; omega⟩,?_⟩,rfl,by dsimp only; decide +kernel⟩,?_⟩
 ·show _=msN _ _ _ (M-1-(M-1)).toNat
  rw [Int.sub_self]; rfl
 generalize eA:(val4 ax0 ax1 ax2 ax3,val4 ay0 ay1 ay2 ay3,val4 az0 az1 az2 az3)=A at *
 rintro ⟨i,o⟩ ⟨⟨i0,i1⟩,ho⟩
 dsimp only at i0 i1 ho ⊢
 have no:inB o:=ho▸inB_ms na _
 have nt:=inB_tj o
 have np:=inB_pj nt na
 simp only [lBd no.1,lBd no.2.1,lBd no.2.2,eta3,lBd nt.1,lBd nt.2.1,lBd nt.2.2,decide_eq_true_eq,decide_eq_false_iff_not,beq_iff_eq,beq_eq_false_iff_ne,ne_eq]
 have hw2:i>=0->IntKind.i64.wrap (i-1)=i-1:=fun c=>i64_id (by omega) (by omega)
 refine ⟨fun c=>⟨by unfold I64; omega,fun cb=>?_,fun cb=>?_⟩,fun c=>?_⟩
 ·have st:=ms_step (k:=val4 k0 k1 k2 k3) (A:=A) c i1
  exact ⟨(i-1,plJ (twJ o) A),⟨⟨by dsimp only; omega,by dsimp only; omega⟩,by dsimp only; rw [st,if_pos cb,← ho]⟩,⟨hw2 c,rfl,rfl,rfl,rfl,rfl,rfl,rfl,rfl,rfl,rfl,rfl,rfl⟩,by dsimp only; omega⟩
 ·have st:=ms_step (k:=val4 k0 k1 k2 k3) (A:=A) c i1
  exact ⟨(i-1,twJ o),⟨⟨by dsimp only; omega,by dsimp only; omega⟩,by dsimp only; rw [st,if_neg cb,← ho]⟩,⟨hw2 c,rfl,rfl,rfl,rfl,rfl,rfl,rfl,rfl,rfl,rfl,rfl,rfl⟩,by dsimp only; omega⟩
 ·have e:msN (val4 k0 k1 k2 k3) M A M.toNat=o:=by rw [ho]; congr 1; omega
  rw [e]
  simp only [and_self]
theorem rMultiple_ok:SpecOk Tryz.prog 41 rMultipleSpec:=by
 intro args k h
 unfold rMultipleSpec at h
 split at h
 ·rename_i k0 k1 k2 k3 ax0 ax1 ax2 ax3 ay0 ay1 ay2 ay3 az0 az1 az2 az3
  obtain ⟨hr,h⟩:=h
  exact ⟨_,h _ rfl _ rfl _ rfl,PureOk.of_tie (GL Tryz.prog rf3Spec mulAnnSpec mulCutSpec) (fun w__=>gokL w__ namesOk_ mixed_ rf3_ok) (fun _=>rfl) (fun _=>rfl) (args':=[.agg [.int .u64 (.sym k0.val),.int .u64 (.sym k1.val),.int .u64 (.sym k2.val),.int .u64 (.sym k3.val)],.agg [.int .u64 (.sym ax0.val),.int .u64 (.sym ax1.val),.int .u64 (.sym ax2.val),.int .u64 (.sym ax3.val),.int .u64 (.sym ay0.val),.int .u64 (.sym ay1.val),.int .u64 (.sym ay2.val),.int .u64 (.sym ay3.val),.int .u64 (.sym az0.val),.int .u64 (.sym az1.val),.int .u64 (.sym az2.val),.int .u64 (.sym az3.val)]]) ⟨⟨⟨rfl,rfl⟩,⟨rfl,rfl⟩,⟨rfl,rfl⟩,⟨rfl,rfl⟩,trivial⟩,⟨⟨rfl,rfl⟩,⟨rfl,rfl⟩,⟨rfl,rfl⟩,⟨rfl,rfl⟩,⟨rfl,rfl⟩,⟨rfl,rfl⟩,⟨rfl,rfl⟩,⟨rfl,rfl⟩,⟨rfl,rfl⟩,⟨rfl,rfl⟩,⟨rfl,rfl⟩,⟨rfl,rfl⟩,trivial⟩,trivial⟩ 40 (fun w__=>VCRMultiple k0.val k1.val k2.val k3.val ax0.val ax1.val ax2.val ax3.val ay0.val ay1.val ay2.val ay3.val az0.val az1.val az2.val az3.val) (fun w__=>tieRMultiple w__ k0.val k1.val k2.val k3.val ax0.val ax1.val ax2.val ax3.val ay0.val ay1.val ay2.val ay3.val az0.val az1.val az2.val az3.val) (fun w__=>pureRMultiple k0.val k1.val k2.val k3.val ax0.val ax1.val ax2.val ax3.val ay0.val ay1.val ay2.val ay3.val az0.val az1.val az2.val az3.val hr)⟩
 ·exact h.elim

end Go.Proofs.YtaaobpalpcdlbaaGreat.Bits
namespace Go.Proofs.YtaaobpalpcdlbaaGreat.Bits
open Go Go.Sx Go.RowKit Go.EC
set_option linter.unusedVariables false
set_option linter.unusedSimpArgs false
set_option maxRecDepth 100000
def slB (ax ay bx b_:Int):Bool:=!(decide (ax=bx)&&decide (aI ay b_=0))
noncomputable def slF (ax ay bx b_:Int):Int:=if ax=bx then (if aI ay b_=0 then 0 else tI (tI 3 (sI (tI ax ax) 1)) (invF (aI ay ay) 115792089210356248762697446949407573530086143415290314195533631308867097853951)) else tI (sI b_ ay) (invF (sI bx ax) 115792089210356248762697446949407573530086143415290314195533631308867097853951)
def rf4Spec:List (FuncId×CSpec):=[(26,rMul4Spec),(25,rAdd4Spec),(27,rSub4Spec),(56,r2InvSpec),(42,rRaisedSpec),(43,rPlusSpec),(41,rMultipleSpec),(40,rLoweredSpec)]
theorem rf4_ok:SpecsOk Tryz.prog rf4Spec:=⟨rMul4_ok,rAdd4_ok,rSub4_ok,r2Inv_ok,rRaised_ok,rPlus_ok,rMultiple_ok,rLowered_ok,trivial⟩
theorem ra_RJ {X Y:Int} {i:Bool} (h:onP X Y i=true) (hx:0<=X) (hy:0<=Y):RJ (raJ i X Y) (pP X Y i):=by
 cases i with
 | true=>exact RJ.O
 | false =>
  obtain ⟨⟨x1,y1⟩,_⟩:=on_fin h
  refine ⟨on_pP h,⟨f1_ne,?_,?_⟩,⟨hx,x1⟩,⟨hy,y1⟩,in_1⟩
  ·show f2 X=f2 X*(f2 1*f2 1)
   rw [f2_01.2]; grind -lia
  ·show f2 Y=f2 Y*(f2 1*(f2 1*f2 1))
   rw [f2_01.2]; grind -lia
theorem lw_RJ {s:Sol} {Q:Pt p256} (h:RJ s Q):lwX s=cX Q/\lwY s=cY Q/\pnB s=cB Q:=by
 cases Q with
 | O =>
  have z:=h.z_of
  exact ⟨if_pos z,if_pos z,decide_eq_true z⟩
 | A x y =>
  obtain ⟨hz,hx,hy⟩:=h.rj
  have z:s.2.2≠0:=fun z=>hz ((f2_zero h.i3).2 z)
  have iv:=inv_f2 h.i3 z
  refine ⟨?_,?_,decide_eq_false z⟩
  ·have e:lwX s=tI s.1 (tI (invF s.2.2 115792089210356248762697446949407573530086143415290314195533631308867097853951) (invF s.2.2 115792089210356248762697446949407573530086143415290314195533631308867097853951)):=if_neg z
   rw [e]
   refine toF_inj (p:=p256) (in_mod _) (val_in x) ?_
   show f2 (tI s.1 (tI (invF s.2.2 115792089210356248762697446949407573530086143415290314195533631308867097853951) (invF s.2.2 115792089210356248762697446949407573530086143415290314195533631308867097853951)))=f2 (x.val:Int)
   rw [f2_tI,f2_tI,f2_self,hx]
   generalize f2 s.2.2=a at *
   generalize f2 (invF s.2.2 115792089210356248762697446949407573530086143415290314195533631308867097853951)=b at *
   have:x*(a*a)*(b*b)=x*((a*b)*(a*b)):=by grind -lia
   rw [this,iv]; grind -lia
  ·have e:lwY s=tI s.2.1 (tI (tI (invF s.2.2 115792089210356248762697446949407573530086143415290314195533631308867097853951) (invF s.2.2 115792089210356248762697446949407573530086143415290314195533631308867097853951)) (invF s.2.2 115792089210356248762697446949407573530086143415290314195533631308867097853951)):=if_neg z
   rw [e]
   refine toF_inj (p:=p256) (in_mod _) (val_in y) ?_
   show f2 (tI s.2.1 (tI (tI (invF s.2.2 115792089210356248762697446949407573530086143415290314195533631308867097853951) (invF s.2.2 115792089210356248762697446949407573530086143415290314195533631308867097853951)) (invF s.2.2 115792089210356248762697446949407573530086143415290314195533631308867097853951)))=f2 (y.val:Int)
   rw [f2_tI,f2_tI,f2_tI,f2_self,hy]
   generalize f2 s.2.2=a at *
   generalize f2 (invF s.2.2 115792089210356248762697446949407573530086143415290314195533631308867097853951)=b at *
   have:y*(a*(a*a))*(b*b*b)=y*((a*b)*((a*b)*(a*b))):=by grind -lia
   rw [this,iv]; grind -lia
theorem dblp {P:Pt p256} (hP:C256.on P) (m:Nat):C256.add (C256.mul m P) (C256.mul m P)=C256.mul (m+m) P:=by
 have:=dbl2 hP hP m 0
 simpa [Cv.mul,C256.add_O] using this
theorem ms_RJ {k:Int} {A:Sol} {P:Pt p256} (hA:RJ A P) (hk:0<=k) {L:Nat} (h256:L<=256) (bk:k.toNat<2^L):∀ n,n<=L->RJ (msN k (L:Int) A n) (C256.mul (k.toNat/2^(L-n)) P)
 | 0,_=>by
  rw [Nat.sub_zero,Nat.div_eq_of_lt bk]
  exact RJ.O
 | n+1,hn=>by
  have ih:=ms_RJ hA hk h256 bk n (by omega)
  have e1:∀ x:Nat,x/2^(L-n)=x/2^(L-(n+1))/2:=fun x=>by
   rw [Nat.div_div_eq_div_mul,← Nat.pow_succ,show (L-(n+1)).succ=L-n by omega]
  have ei:(L:Int)-1-(n:Int)=((L-(n+1):Nat):Int):=by omega
  rw [e1] at ih
  simp only [msN,ei,bit_nat hk (show L-(n+1)<=255 by omega)]
  generalize k.toNat/2^(L-(n+1))=u at *
  have oP:=hA.on
  have t:=ih.twice
  rw [dblp oP] at t
  by_cases cu:u%2=1
  ·rw [if_pos (by omega)]
   have:=t.plus hA
   rw [show u/2+u/2=u-1 by omega] at this
   have e:C256.add (C256.mul (u-1) P) P=C256.mul u P:=by
    have:u=(u-1)+1:=by omega
    rw [this]; rfl
   rw [e] at this
   exact this
  ·rw [if_neg (by omega)]
   rw [show u/2+u/2=u by omega] at t
   exact t
theorem mulJ_RJ {k:Int} {A:Sol} {P:Pt p256} (hA:RJ A P) (hk:0<=k/\k<115792089237316195423570985008687907853269984665640564039457584007913129639936):RJ (mulJ k A) (C256.mul k.toNat P):=by
 have lk:=lenF_lt hk.1
 have mk:=(lenF_bound hk.1 256 (by have:=hk.2; exact this)).2
 unfold mulJ
 obtain ⟨L,hL⟩:∃ L:Nat,lenF k=(L:Int):=⟨(lenF k).toNat,by omega⟩
 have pw:k.toNat<2^L:=by
  have a:(k.toNat:Int)<((2^(lenF k).toNat:Nat):Int):=by rw [Int.toNat_of_nonneg hk.1]; simpa using lk.2
  rw [hL] at a
  simpa using Int.ofNat_lt.1 a
 rw [hL]
 have r:=ms_RJ hA hk.1 (L:=L) (by omega) pw L (Nat.le_refl _)
 rw [Nat.sub_self,Nat.pow_zero,Nat.div_one] at r
 exact r
theorem inB_mj {k:Int} {A:Sol} (h:inB A):inB (mulJ k A):=inB_ms h _
theorem inB_ra {i:Bool} {X Y:Int} (hx:0<=X/\X<115792089237316195423570985008687907853269984665640564039457584007913129639936) (hy:0<=Y/\Y<115792089237316195423570985008687907853269984665640564039457584007913129639936):inB (raJ i X Y):=by
 cases i
 ·exact ⟨hx,hy,(by decide:(0:Int)<=1/\(1:Int)<115792089237316195423570985008687907853269984665640564039457584007913129639936)⟩
 ·exact inB_j0
theorem G_RJ:RJ (48439561293906451759052585252797914202762949526041747995844080717082404635286,36134250956749795798585127919587881956611106672985015071877198253568414405109,1) G256:=by
 have r:=G_RI
 refine ⟨G_on,⟨f1_ne,?_,?_⟩,r.i1,r.i2,r.i3⟩
 ·show f2 gx=f2 gx*(f2 1*f2 1)
  rw [f2_01.2]; grind -lia
 ·show f2 gy=f2 gy*(f2 1*(f2 1*f2 1))
  rw [f2_01.2]; grind -lia
theorem ds0a (a b:Int):(limb (aI a b) 0==0&&(limb (aI a b) 1==0&&(limb (aI a b) 2==0&&(limb (aI a b) 3==0&&true))))=decide (aI a b=0):=by
 have h:inP (aI a b):=in_mod _
 have h2:aI a b<115792089210356248762697446949407573530086143415290314195533631308867097853951:=h.2
 rw [eq4l h.1 (by omega) U64_0 U64_0 U64_0 U64_0]; rfl
theorem lz4r:limb 0 0=0/\limb 0 1=0/\limb 0 2=0/\limb 0 3=0:=by decide +kernel
theorem fold_bf (j k:Int) (A:Pt p256):C256.add (C256.mul j.toNat G256) (C256.mul k.toNat A)=BF j k A:=rfl
theorem ra_false (X Y:Int):raJ false X Y=(X,Y,1):=rfl
def rSlopeSpec:CSpec
 | [.agg [.int .u64 ax0,.int .u64 ax1,.int .u64 ax2,.int .u64 ax3,.int .u64 ay0,.int .u64 ay1,.int .u64 ay2,.int .u64 ay3,.bool ai],.agg [.int .u64 bx0,.int .u64 bx1,.int .u64 bx2,.int .u64 bx3,.int .u64 by0,.int .u64 by1,.int .u64 by2,.int .u64 by3,.bool bi]],k=>((U64 ax0.val)/\(U64 ax1.val)/\(U64 ax2.val)/\(U64 ax3.val)/\(U64 ay0.val)/\(U64 ay1.val)/\(U64 ay2.val)/\(U64 ay3.val)/\(U64 bx0.val)/\(U64 bx1.val)/\(U64 bx2.val)/\(U64 bx3.val)/\(U64 by0.val)/\(U64 by1.val)/\(U64 by2.val)/\(U64 by3.val))/\(∀ r0:Int,r0=(slF (val4 ax0.val ax1.val ax2.val ax3.val) (val4 ay0.val ay1.val ay2.val ay3.val) (val4 bx0.val bx1.val bx2.val bx3.val) (val4 by0.val by1.val by2.val by3.val))->∀ r1:Bool,r1=(slB (val4 ax0.val ax1.val ax2.val ax3.val) (val4 ay0.val ay1.val ay2.val ay3.val) (val4 bx0.val bx1.val bx2.val bx3.val) (val4 by0.val by1.val by2.val by3.val))->k (.tup [.agg [.int .u64 (.sym (limb r0 0)),.int .u64 (.sym (limb r0 1)),.int .u64 (.sym (limb r0 2)),.int .u64 (.sym (limb r0 3))],.bool (.sym r1)]))
 | _,_=>False
def VCRSlope (ax0:Int) (ax1:Int) (ax2:Int) (ax3:Int) (ay0:Int) (ay1:Int) (ay2:Int) (ay3:Int) (bx0:Int) (bx1:Int) (bx2:Int) (bx3:Int) (by0:Int) (by1:Int) (by2:Int) (by3:Int):Prop :=
 ∀ (v1:Bool),v1=!(ax0==bx0&&(ax1==bx1&&(ax2==bx2&&(ax3==bx3&&true))))->(v1=true->(U64 bx0/\U64 bx1/\U64 bx2/\U64 bx3/\U64 ax0/\U64 ax1/\U64 ax2/\U64 ax3)/\∀ v2,v2=sI (val4 bx0 bx1 bx2 bx3) (val4 ax0 ax1 ax2 ax3)->(U64 (limb v2 0)/\U64 (limb v2 1)/\U64 (limb v2 2)/\U64 (limb v2 3)/\U64 18446744073709551615/\U64 4294967295/\U64 0/\U64 18446744069414584321)/\∀ v3,v3=invF (val4 (limb v2 0) (limb v2 1) (limb v2 2) (limb v2 3)) (115792089210356248762697446949407573530086143415290314195533631308867097853951:Int)->∀ v4,v4=okF (val4 (limb v2 0) (limb v2 1) (limb v2 2) (limb v2 3)) (115792089210356248762697446949407573530086143415290314195533631308867097853951:Int)->(U64 by0/\U64 by1/\U64 by2/\U64 by3/\U64 ay0/\U64 ay1/\U64 ay2/\U64 ay3)/\∀ v5,v5=sI (val4 by0 by1 by2 by3) (val4 ay0 ay1 ay2 ay3)->(U64 (limb v5 0)/\U64 (limb v5 1)/\U64 (limb v5 2)/\U64 (limb v5 3)/\U64 (limb v3 0)/\U64 (limb v3 1)/\U64 (limb v3 2)/\U64 (limb v3 3))/\∀ v6,v6=tI (val4 (limb v5 0) (limb v5 1) (limb v5 2) (limb v5 3)) (val4 (limb v3 0) (limb v3 1) (limb v3 2) (limb v3 3))->((IntKind.u64=IntKind.u64/\limb v6 0=limb (slF (val4 ax0 ax1 ax2 ax3) (val4 ay0 ay1 ay2 ay3) (val4 bx0 bx1 bx2 bx3) (val4 by0 by1 by2 by3)) 0)/\(IntKind.u64=IntKind.u64/\limb v6 1=limb (slF (val4 ax0 ax1 ax2 ax3) (val4 ay0 ay1 ay2 ay3) (val4 bx0 bx1 bx2 bx3) (val4 by0 by1 by2 by3)) 1)/\(IntKind.u64=IntKind.u64/\limb v6 2=limb (slF (val4 ax0 ax1 ax2 ax3) (val4 ay0 ay1 ay2 ay3) (val4 bx0 bx1 bx2 bx3) (val4 by0 by1 by2 by3)) 2)/\(IntKind.u64=IntKind.u64/\limb v6 3=limb (slF (val4 ax0 ax1 ax2 ax3) (val4 ay0 ay1 ay2 ay3) (val4 bx0 bx1 bx2 bx3) (val4 by0 by1 by2 by3)) 3)/\True)/\true=slB (val4 ax0 ax1 ax2 ax3) (val4 ay0 ay1 ay2 ay3) (val4 bx0 bx1 bx2 bx3) (val4 by0 by1 by2 by3)/\True)/\(v1=false->(U64 ay0/\U64 ay1/\U64 ay2/\U64 ay3/\U64 by0/\U64 by1/\U64 by2/\U64 by3)/\∀ v7,v7=aI (val4 ay0 ay1 ay2 ay3) (val4 by0 by1 by2 by3)->∀ v8,v8=(limb v7 0==(0:Int)&&(limb v7 1==(0:Int)&&(limb v7 2==(0:Int)&&(limb v7 3==(0:Int)&&true))))->(v8=true->((IntKind.u64=IntKind.u64/\0=limb (slF (val4 ax0 ax1 ax2 ax3) (val4 ay0 ay1 ay2 ay3) (val4 bx0 bx1 bx2 bx3) (val4 by0 by1 by2 by3)) 0)/\(IntKind.u64=IntKind.u64/\0=limb (slF (val4 ax0 ax1 ax2 ax3) (val4 ay0 ay1 ay2 ay3) (val4 bx0 bx1 bx2 bx3) (val4 by0 by1 by2 by3)) 1)/\(IntKind.u64=IntKind.u64/\0=limb (slF (val4 ax0 ax1 ax2 ax3) (val4 ay0 ay1 ay2 ay3) (val4 bx0 bx1 bx2 bx3) (val4 by0 by1 by2 by3)) 2)/\(IntKind.u64=IntKind.u64/\0=limb (slF (val4 ax0 ax1 ax2 ax3) (val4 ay0 ay1 ay2 ay3) (val4 bx0 bx1 bx2 bx3) (val4 by0 by1 by2 by3)) 3)/\True)/\false=slB (val4 ax0 ax1 ax2 ax3) (val4 ay0 ay1 ay2 ay3) (val4 bx0 bx1 bx2 bx3) (val4 by0 by1 by2 by3)/\True)/\(v8=false->(U64 ay0/\U64 ay1/\U64 ay2/\U64 ay3/\U64 ay0/\U64 ay1/\U64 ay2/\U64 ay3)/\∀ v9,v9=aI (val4 ay0 ay1 ay2 ay3) (val4 ay0 ay1 ay2 ay3)->(U64 (limb v9 0)/\U64 (limb v9 1)/\U64 (limb v9 2)/\U64 (limb v9 3)/\U64 18446744073709551615/\U64 4294967295/\U64 0/\U64 18446744069414584321)/\∀ v10,v10=invF (val4 (limb v9 0) (limb v9 1) (limb v9 2) (limb v9 3)) (115792089210356248762697446949407573530086143415290314195533631308867097853951:Int)->∀ v11,v11=okF (val4 (limb v9 0) (limb v9 1) (limb v9 2) (limb v9 3)) (115792089210356248762697446949407573530086143415290314195533631308867097853951:Int)->(U64 ax0/\U64 ax1/\U64 ax2/\U64 ax3/\U64 ax0/\U64 ax1/\U64 ax2/\U64 ax3)/\∀ v12,v12=tI (val4 ax0 ax1 ax2 ax3) (val4 ax0 ax1 ax2 ax3)->(U64 (limb v12 0)/\U64 (limb v12 1)/\U64 (limb v12 2)/\U64 (limb v12 3)/\U64 1/\U64 0/\U64 0/\U64 0)/\∀ v13,v13=sI (val4 (limb v12 0) (limb v12 1) (limb v12 2) (limb v12 3)) (1:Int)->(U64 3/\U64 0/\U64 0/\U64 0/\U64 (limb v13 0)/\U64 (limb v13 1)/\U64 (limb v13 2)/\U64 (limb v13 3))/\∀ v14,v14=tI (3:Int) (val4 (limb v13 0) (limb v13 1) (limb v13 2) (limb v13 3))->(U64 (limb v14 0)/\U64 (limb v14 1)/\U64 (limb v14 2)/\U64 (limb v14 3)/\U64 (limb v10 0)/\U64 (limb v10 1)/\U64 (limb v10 2)/\U64 (limb v10 3))/\∀ v15,v15=tI (val4 (limb v14 0) (limb v14 1) (limb v14 2) (limb v14 3)) (val4 (limb v10 0) (limb v10 1) (limb v10 2) (limb v10 3))->((IntKind.u64=IntKind.u64/\limb v15 0=limb (slF (val4 ax0 ax1 ax2 ax3) (val4 ay0 ay1 ay2 ay3) (val4 bx0 bx1 bx2 bx3) (val4 by0 by1 by2 by3)) 0)/\(IntKind.u64=IntKind.u64/\limb v15 1=limb (slF (val4 ax0 ax1 ax2 ax3) (val4 ay0 ay1 ay2 ay3) (val4 bx0 bx1 bx2 bx3) (val4 by0 by1 by2 by3)) 1)/\(IntKind.u64=IntKind.u64/\limb v15 2=limb (slF (val4 ax0 ax1 ax2 ax3) (val4 ay0 ay1 ay2 ay3) (val4 bx0 bx1 bx2 bx3) (val4 by0 by1 by2 by3)) 2)/\(IntKind.u64=IntKind.u64/\limb v15 3=limb (slF (val4 ax0 ax1 ax2 ax3) (val4 ay0 ay1 ay2 ay3) (val4 bx0 bx1 bx2 bx3) (val4 by0 by1 by2 by3)) 3)/\True)/\true=slB (val4 ax0 ax1 ax2 ax3) (val4 ay0 ay1 ay2 ay3) (val4 bx0 bx1 bx2 bx3) (val4 by0 by1 by2 by3)/\True))
theorem tieRSlope (w0:World) (ax0:Int) (ax1:Int) (ax2:Int) (ax3:Int) (ay0:Int) (ay1:Int) (ay2:Int) (ay3:Int) (ai:Bool) (bx0:Int) (bx1:Int) (bx2:Int) (bx3:Int) (by0:Int) (by1:Int) (by2:Int) (by3:Int) (bi:Bool):VCRSlope ax0 ax1 ax2 ax3 ay0 ay1 ay2 ay3 bx0 bx1 bx2 bx3 by0 by1 by2 by3=((recN (GC Tryz.prog rf4Spec w0) 40).call 37 [.agg [.int .u64 (.sym ax0),.int .u64 (.sym ax1),.int .u64 (.sym ax2),.int .u64 (.sym ax3),.int .u64 (.sym ay0),.int .u64 (.sym ay1),.int .u64 (.sym ay2),.int .u64 (.sym ay3),.bool (.sym ai)],.agg [.int .u64 (.sym bx0),.int .u64 (.sym bx1),.int .u64 (.sym bx2),.int .u64 (.sym bx3),.int .u64 (.sym by0),.int .u64 (.sym by1),.int .u64 (.sym by2),.int .u64 (.sym by3),.bool (.sym bi)]] [] (fun r__ _=>eqV r__ (.tup [.agg [.int .u64 (.sym (limb (slF (val4 ax0 ax1 ax2 ax3) (val4 ay0 ay1 ay2 ay3) (val4 bx0 bx1 bx2 bx3) (val4 by0 by1 by2 by3)) 0)),.int .u64 (.sym (limb (slF (val4 ax0 ax1 ax2 ax3) (val4 ay0 ay1 ay2 ay3) (val4 bx0 bx1 bx2 bx3) (val4 by0 by1 by2 by3)) 1)),.int .u64 (.sym (limb (slF (val4 ax0 ax1 ax2 ax3) (val4 ay0 ay1 ay2 ay3) (val4 bx0 bx1 bx2 bx3) (val4 by0 by1 by2 by3)) 2)),.int .u64 (.sym (limb (slF (val4 ax0 ax1 ax2 ax3) (val4 ay0 ay1 ay2 ay3) (val4 bx0 bx1 bx2 bx3) (val4 by0 by1 by2 by3)) 3))],.bool (.sym (slB (val4 ax0 ax1 ax2 ax3) (val4 ay0 ay1 ay2 ay3) (val4 bx0 bx1 bx2 bx3) (val4 by0 by1 by2 by3)))]))):=by kernel_rfl
theorem pureRSlope (ax0 ax1 ax2 ax3 ay0 ay1 ay2 ay3:Int) (ai:Bool) (bx0 bx1 bx2 bx3 by0 by1 by2 by3:Int) (bi:Bool) (h:U64 ax0/\U64 ax1/\U64 ax2/\U64 ax3/\U64 ay0/\U64 ay1/\U64 ay2/\U64 ay3/\U64 bx0/\U64 bx1/\U64 bx2/\U64 bx3/\U64 by0/\U64 by1/\U64 by2/\U64 by3):VCRSlope ax0 ax1 ax2 ax3 ay0 ay1 ay2 ay3 bx0 bx1 bx2 bx3 by0 by1 by2 by3:=by
 obtain ⟨hax0,hax1,hax2,hax3,hay0,hay1,hay2,hay3,hbx0,hbx1,hbx2,hbx3,hby0,hby1,hby2,hby3⟩:=h
 have eax0:U64 ax0=True:=eq_true hax0
 have eax1:U64 ax1=True:=eq_true hax1
 have eax2:U64 ax2=True:=eq_true hax2
 have eax3:U64 ax3=True:=eq_true hax3
 have eay0:U64 ay0=True:=eq_true hay0
 have eay1:U64 ay1=True:=eq_true hay1
 have eay2:U64 ay2=True:=eq_true hay2
 have eay3:U64 ay3=True:=eq_true hay3
 have ebx0:U64 bx0=True:=eq_true hbx0
 have ebx1:U64 bx1=True:=eq_true hbx1
 have ebx2:U64 bx2=True:=eq_true hbx2
 have ebx3:U64 bx3=True:=eq_true hbx3
 have eby0:U64 by0=True:=eq_true hby0
 have eby1:U64 by1=True:=eq_true hby1
 have eby2:U64 by2=True:=eq_true hby2
 have eby3:U64 by3=True:=eq_true hby3
 obtain ⟨q0,q1,q2,q3⟩:=m2
 have p0:=eq_true q0
 have p1:=eq_true q1
 have p2:=eq_true q2
 have p3:=eq_true q3
 have z1:U64 1=True:=eq_true U64_1
 have z3:U64 3=True:=eq_true (by decide)
 have em:val4 18446744073709551615 4294967295 0 18446744069414584321=115792089210356248762697446949407573530086143415290314195533631308867097853951:=rfl
 unfold VCRSlope slF slB
 simp only [forall_eq,ulP,em,ltI,laI,lsI,lIv,ds0a,eax0,eax1,eax2,eax3,eay0,eay1,eay2,eay3,ebx0,ebx1,ebx2,ebx3,eby0,eby1,eby2,eby3,p0,p1,p2,p3,z1,z3,true_and,eq4 hax0 hax1 hax2 hax3 hbx0 hbx1 hbx2 hbx3]
 generalize val4 ax0 ax1 ax2 ax3=X
 generalize val4 bx0 bx1 bx2 bx3=X2
 generalize val4 ay0 ay1 ay2 ay3=Y
 generalize val4 by0 by1 by2 by3=Y2
 have l0:=lz4r
 by_cases c:X=X2
 ·by_cases d:aI Y Y2=0
  ·simp [c,d,l0.1,l0.2.1,l0.2.2.1,l0.2.2.2]
  ·simp [c,d]
 ·simp [c]
theorem rSlope_ok:SpecOk Tryz.prog 37 rSlopeSpec:=by
 intro args k h
 unfold rSlopeSpec at h
 split at h
 ·rename_i ax0 ax1 ax2 ax3 ay0 ay1 ay2 ay3 ai bx0 bx1 bx2 bx3 by0 by1 by2 by3 bi
  obtain ⟨hr,h⟩:=h
  exact ⟨_,h _ rfl _ rfl,PureOk.of_tie (GC Tryz.prog rf4Spec) (fun w__=>gok w__ namesOk_ mixed_ rf4_ok) (fun _=>rfl) (fun _=>rfl) (args':=[.agg [.int .u64 (.sym ax0.val),.int .u64 (.sym ax1.val),.int .u64 (.sym ax2.val),.int .u64 (.sym ax3.val),.int .u64 (.sym ay0.val),.int .u64 (.sym ay1.val),.int .u64 (.sym ay2.val),.int .u64 (.sym ay3.val),.bool (.sym ai.val)],.agg [.int .u64 (.sym bx0.val),.int .u64 (.sym bx1.val),.int .u64 (.sym bx2.val),.int .u64 (.sym bx3.val),.int .u64 (.sym by0.val),.int .u64 (.sym by1.val),.int .u64 (.sym by2.val),.int .u64 (.sym by3.val),.bool (.sym bi.val)]]) ⟨⟨⟨rfl,rfl⟩,⟨rfl,rfl⟩,⟨rfl,rfl⟩,⟨rfl,rfl⟩,⟨rfl,rfl⟩,⟨rfl,rfl⟩,⟨rfl,rfl⟩,⟨rfl,rfl⟩,rfl,trivial⟩,⟨⟨rfl,rfl⟩,⟨rfl,rfl⟩,⟨rfl,rfl⟩,⟨rfl,rfl⟩,⟨rfl,rfl⟩,⟨rfl,rfl⟩,⟨rfl,rfl⟩,⟨rfl,rfl⟩,rfl,trivial⟩,trivial⟩ 40 (fun w__=>VCRSlope ax0.val ax1.val ax2.val ax3.val ay0.val ay1.val ay2.val ay3.val bx0.val bx1.val bx2.val bx3.val by0.val by1.val by2.val by3.val) (fun w__=>tieRSlope w__ ax0.val ax1.val ax2.val ax3.val ay0.val ay1.val ay2.val ay3.val ai.val bx0.val bx1.val bx2.val bx3.val by0.val by1.val by2.val by3.val bi.val) (fun w__=>pureRSlope ax0.val ax1.val ax2.val ax3.val ay0.val ay1.val ay2.val ay3.val ai.val bx0.val bx1.val bx2.val bx3.val by0.val by1.val by2.val by3.val bi.val hr)⟩
 ·exact h.elim

def rMulSpec:CSpec
 | [.agg [.int .u64 k0,.int .u64 k1,.int .u64 k2,.int .u64 k3],.agg [.int .u64 ax0,.int .u64 ax1,.int .u64 ax2,.int .u64 ax3,.int .u64 ay0,.int .u64 ay1,.int .u64 ay2,.int .u64 ay3,.bool ai]],k=>((U64 k0.val)/\(U64 k1.val)/\(U64 k2.val)/\(U64 k3.val)/\(U64 ax0.val)/\(U64 ax1.val)/\(U64 ax2.val)/\(U64 ax3.val)/\(U64 ay0.val)/\(U64 ay1.val)/\(U64 ay2.val)/\(U64 ay3.val)/\(onP (val4 ax0.val ax1.val ax2.val ax3.val) (val4 ay0.val ay1.val ay2.val ay3.val) ai.val=true))/\(∀ r0:Int,r0=(cX (C256.mul (val4 k0.val k1.val k2.val k3.val).toNat (pP (val4 ax0.val ax1.val ax2.val ax3.val) (val4 ay0.val ay1.val ay2.val ay3.val) ai.val)))->∀ r1:Int,r1=(cY (C256.mul (val4 k0.val k1.val k2.val k3.val).toNat (pP (val4 ax0.val ax1.val ax2.val ax3.val) (val4 ay0.val ay1.val ay2.val ay3.val) ai.val)))->∀ r2:Bool,r2=(cB (C256.mul (val4 k0.val k1.val k2.val k3.val).toNat (pP (val4 ax0.val ax1.val ax2.val ax3.val) (val4 ay0.val ay1.val ay2.val ay3.val) ai.val)))->k (.agg [.int .u64 (.sym (limb r0 0)),.int .u64 (.sym (limb r0 1)),.int .u64 (.sym (limb r0 2)),.int .u64 (.sym (limb r0 3)),.int .u64 (.sym (limb r1 0)),.int .u64 (.sym (limb r1 1)),.int .u64 (.sym (limb r1 2)),.int .u64 (.sym (limb r1 3)),.bool (.sym r2)]))
 | _,_=>False
def VCRMul (k0:Int) (k1:Int) (k2:Int) (k3:Int) (ax0:Int) (ax1:Int) (ax2:Int) (ax3:Int) (ay0:Int) (ay1:Int) (ay2:Int) (ay3:Int) (ai:Bool):Prop :=
 (U64 ax0/\U64 ax1/\U64 ax2/\U64 ax3/\U64 ay0/\U64 ay1/\U64 ay2/\U64 ay3)/\∀ v1,v1=(raJ ai (val4 ax0 ax1 ax2 ax3) (val4 ay0 ay1 ay2 ay3)).fst->∀ v2,v2=(raJ ai (val4 ax0 ax1 ax2 ax3) (val4 ay0 ay1 ay2 ay3)).snd.fst->∀ v3,v3=(raJ ai (val4 ax0 ax1 ax2 ax3) (val4 ay0 ay1 ay2 ay3)).snd.snd->(U64 k0/\U64 k1/\U64 k2/\U64 k3/\U64 (limb v1 0)/\U64 (limb v1 1)/\U64 (limb v1 2)/\U64 (limb v1 3)/\U64 (limb v2 0)/\U64 (limb v2 1)/\U64 (limb v2 2)/\U64 (limb v2 3)/\U64 (limb v3 0)/\U64 (limb v3 1)/\U64 (limb v3 2)/\U64 (limb v3 3))/\∀ v4,v4=(mulJ (val4 k0 k1 k2 k3) (val4 (limb v1 0) (limb v1 1) (limb v1 2) (limb v1 3),val4 (limb v2 0) (limb v2 1) (limb v2 2) (limb v2 3),val4 (limb v3 0) (limb v3 1) (limb v3 2) (limb v3 3))).fst->∀ v5,v5=(mulJ (val4 k0 k1 k2 k3) (val4 (limb v1 0) (limb v1 1) (limb v1 2) (limb v1 3),val4 (limb v2 0) (limb v2 1) (limb v2 2) (limb v2 3),val4 (limb v3 0) (limb v3 1) (limb v3 2) (limb v3 3))).snd.fst->∀ v6,v6=(mulJ (val4 k0 k1 k2 k3) (val4 (limb v1 0) (limb v1 1) (limb v1 2) (limb v1 3),val4 (limb v2 0) (limb v2 1) (limb v2 2) (limb v2 3),val4 (limb v3 0) (limb v3 1) (limb v3 2) (limb v3 3))).snd.snd->(U64 (limb v4 0)/\U64 (limb v4 1)/\U64 (limb v4 2)/\U64 (limb v4 3)/\U64 (limb v5 0)/\U64 (limb v5 1)/\U64 (limb v5 2)/\U64 (limb v5 3)/\U64 (limb v6 0)/\U64 (limb v6 1)/\U64 (limb v6 2)/\U64 (limb v6 3))/\∀ v7,v7=lwX (val4 (limb v4 0) (limb v4 1) (limb v4 2) (limb v4 3),val4 (limb v5 0) (limb v5 1) (limb v5 2) (limb v5 3),val4 (limb v6 0) (limb v6 1) (limb v6 2) (limb v6 3))->∀ v8,v8=lwY (val4 (limb v4 0) (limb v4 1) (limb v4 2) (limb v4 3),val4 (limb v5 0) (limb v5 1) (limb v5 2) (limb v5 3),val4 (limb v6 0) (limb v6 1) (limb v6 2) (limb v6 3))->∀ v9,v9=pnB (val4 (limb v4 0) (limb v4 1) (limb v4 2) (limb v4 3),val4 (limb v5 0) (limb v5 1) (limb v5 2) (limb v5 3),val4 (limb v6 0) (limb v6 1) (limb v6 2) (limb v6 3))->(IntKind.u64=IntKind.u64/\limb v7 0=limb (cX (C256.mul (val4 k0 k1 k2 k3).toNat (pP (val4 ax0 ax1 ax2 ax3) (val4 ay0 ay1 ay2 ay3) ai))) 0)/\(IntKind.u64=IntKind.u64/\limb v7 1=limb (cX (C256.mul (val4 k0 k1 k2 k3).toNat (pP (val4 ax0 ax1 ax2 ax3) (val4 ay0 ay1 ay2 ay3) ai))) 1)/\(IntKind.u64=IntKind.u64/\limb v7 2=limb (cX (C256.mul (val4 k0 k1 k2 k3).toNat (pP (val4 ax0 ax1 ax2 ax3) (val4 ay0 ay1 ay2 ay3) ai))) 2)/\(IntKind.u64=IntKind.u64/\limb v7 3=limb (cX (C256.mul (val4 k0 k1 k2 k3).toNat (pP (val4 ax0 ax1 ax2 ax3) (val4 ay0 ay1 ay2 ay3) ai))) 3)/\(IntKind.u64=IntKind.u64/\limb v8 0=limb (cY (C256.mul (val4 k0 k1 k2 k3).toNat (pP (val4 ax0 ax1 ax2 ax3) (val4 ay0 ay1 ay2 ay3) ai))) 0)/\(IntKind.u64=IntKind.u64/\limb v8 1=limb (cY (C256.mul (val4 k0 k1 k2 k3).toNat (pP (val4 ax0 ax1 ax2 ax3) (val4 ay0 ay1 ay2 ay3) ai))) 1)/\(IntKind.u64=IntKind.u64/\limb v8 2=limb (cY (C256.mul (val4 k0 k1 k2 k3).toNat (pP (val4 ax0 ax1 ax2 ax3) (val4 ay0 ay1 ay2 ay3) ai))) 2)/\(IntKind.u64=IntKind.u64/\limb v8 3=limb (cY (C256.mul (val4 k0 k1 k2 k3).toNat (pP (val4 ax0 ax1 ax2 ax3) (val4 ay0 ay1 ay2 ay3) ai))) 3)/\v9=cB (C256.mul (val4 k0 k1 k2 k3).toNat (pP (val4 ax0 ax1 ax2 ax3) (val4 ay0 ay1 ay2 ay3) ai))/\True
theorem tieRMul (w0:World) (k0:Int) (k1:Int) (k2:Int) (k3:Int) (ax0:Int) (ax1:Int) (ax2:Int) (ax3:Int) (ay0:Int) (ay1:Int) (ay2:Int) (ay3:Int) (ai:Bool):VCRMul k0 k1 k2 k3 ax0 ax1 ax2 ax3 ay0 ay1 ay2 ay3 ai=((recN (GC Tryz.prog rf4Spec w0) 40).call 11 [.agg [.int .u64 (.sym k0),.int .u64 (.sym k1),.int .u64 (.sym k2),.int .u64 (.sym k3)],.agg [.int .u64 (.sym ax0),.int .u64 (.sym ax1),.int .u64 (.sym ax2),.int .u64 (.sym ax3),.int .u64 (.sym ay0),.int .u64 (.sym ay1),.int .u64 (.sym ay2),.int .u64 (.sym ay3),.bool (.sym ai)]] [] (fun r__ _=>eqV r__ (.agg [.int .u64 (.sym (limb (cX (C256.mul (val4 k0 k1 k2 k3).toNat (pP (val4 ax0 ax1 ax2 ax3) (val4 ay0 ay1 ay2 ay3) ai))) 0)),.int .u64 (.sym (limb (cX (C256.mul (val4 k0 k1 k2 k3).toNat (pP (val4 ax0 ax1 ax2 ax3) (val4 ay0 ay1 ay2 ay3) ai))) 1)),.int .u64 (.sym (limb (cX (C256.mul (val4 k0 k1 k2 k3).toNat (pP (val4 ax0 ax1 ax2 ax3) (val4 ay0 ay1 ay2 ay3) ai))) 2)),.int .u64 (.sym (limb (cX (C256.mul (val4 k0 k1 k2 k3).toNat (pP (val4 ax0 ax1 ax2 ax3) (val4 ay0 ay1 ay2 ay3) ai))) 3)),.int .u64 (.sym (limb (cY (C256.mul (val4 k0 k1 k2 k3).toNat (pP (val4 ax0 ax1 ax2 ax3) (val4 ay0 ay1 ay2 ay3) ai))) 0)),.int .u64 (.sym (limb (cY (C256.mul (val4 k0 k1 k2 k3).toNat (pP (val4 ax0 ax1 ax2 ax3) (val4 ay0 ay1 ay2 ay3) ai))) 1)),.int .u64 (.sym (limb (cY (C256.mul (val4 k0 k1 k2 k3).toNat (pP (val4 ax0 ax1 ax2 ax3) (val4 ay0 ay1 ay2 ay3) ai))) 2)),.int .u64 (.sym (limb (cY (C256.mul (val4 k0 k1 k2 k3).toNat (pP (val4 ax0 ax1 ax2 ax3) (val4 ay0 ay1 ay2 ay3) ai))) 3)),.bool (.sym (cB (C256.mul (val4 k0 k1 k2 k3).toNat (pP (val4 ax0 ax1 ax2 ax3) (val4 ay0 ay1 ay2 ay3) ai))))]))):=by kernel_rfl
theorem pureRMul (k0 k1 k2 k3 ax0 ax1 ax2 ax3 ay0 ay1 ay2 ay3:Int) (ai:Bool) (h:U64 k0/\U64 k1/\U64 k2/\U64 k3/\U64 ax0/\U64 ax1/\U64 ax2/\U64 ax3/\U64 ay0/\U64 ay1/\U64 ay2/\U64 ay3/\onP (val4 ax0 ax1 ax2 ax3) (val4 ay0 ay1 ay2 ay3) ai=true):VCRMul k0 k1 k2 k3 ax0 ax1 ax2 ax3 ay0 ay1 ay2 ay3 ai:=by
 obtain ⟨hk0,hk1,hk2,hk3,hax0,hax1,hax2,hax3,hay0,hay1,hay2,hay3,ho⟩:=h
 have eax0:U64 ax0=True:=eq_true hax0
 have eax1:U64 ax1=True:=eq_true hax1
 have eax2:U64 ax2=True:=eq_true hax2
 have eax3:U64 ax3=True:=eq_true hax3
 have eay0:U64 ay0=True:=eq_true hay0
 have eay1:U64 ay1=True:=eq_true hay1
 have eay2:U64 ay2=True:=eq_true hay2
 have eay3:U64 ay3=True:=eq_true hay3
 have ek0:U64 k0=True:=eq_true hk0
 have ek1:U64 k1=True:=eq_true hk1
 have ek2:U64 k2=True:=eq_true hk2
 have ek3:U64 k3=True:=eq_true hk3
 have bk:=val4_lt hk0 hk1 hk2 hk3
 have bx:=val4_lt hax0 hax1 hax2 hax3
 have by_:=val4_lt hay0 hay1 hay2 hay3
 have na:inB (raJ ai (val4 ax0 ax1 ax2 ax3) (val4 ay0 ay1 ay2 ay3)):=inB_ra bx by_
 have nm:=inB_mj (k:=val4 k0 k1 k2 k3) na
 obtain ⟨r1,r2,r3⟩:=lw_RJ (mulJ_RJ (ra_RJ ho bx.1 by_.1) bk)
 unfold VCRMul
 simp only [forall_eq,ulP,eax0,eax1,eax2,eax3,eay0,eay1,eay2,eay3,ek0,ek1,ek2,ek3,true_and,lBd na.1,lBd na.2.1,lBd na.2.2,eta3,lBd nm.1,lBd nm.2.1,lBd nm.2.2,r1,r2,r3,and_self]
theorem rMul_ok:SpecOk Tryz.prog 11 rMulSpec:=by
 intro args k h
 unfold rMulSpec at h
 split at h
 ·rename_i k0 k1 k2 k3 ax0 ax1 ax2 ax3 ay0 ay1 ay2 ay3 ai
  obtain ⟨hr,h⟩:=h
  exact ⟨_,h _ rfl _ rfl _ rfl,PureOk.of_tie (GC Tryz.prog rf4Spec) (fun w__=>gok w__ namesOk_ mixed_ rf4_ok) (fun _=>rfl) (fun _=>rfl) (args':=[.agg [.int .u64 (.sym k0.val),.int .u64 (.sym k1.val),.int .u64 (.sym k2.val),.int .u64 (.sym k3.val)],.agg [.int .u64 (.sym ax0.val),.int .u64 (.sym ax1.val),.int .u64 (.sym ax2.val),.int .u64 (.sym ax3.val),.int .u64 (.sym ay0.val),.int .u64 (.sym ay1.val),.int .u64 (.sym ay2.val),.int .u64 (.sym ay3.val),.bool (.sym ai.val)]]) ⟨⟨⟨rfl,rfl⟩,⟨rfl,rfl⟩,⟨rfl,rfl⟩,⟨rfl,rfl⟩,trivial⟩,⟨⟨rfl,rfl⟩,⟨rfl,rfl⟩,⟨rfl,rfl⟩,⟨rfl,rfl⟩,⟨rfl,rfl⟩,⟨rfl,rfl⟩,⟨rfl,rfl⟩,⟨rfl,rfl⟩,rfl,trivial⟩,trivial⟩ 40 (fun w__=>VCRMul k0.val k1.val k2.val k3.val ax0.val ax1.val ax2.val ax3.val ay0.val ay1.val ay2.val ay3.val ai.val) (fun w__=>tieRMul w__ k0.val k1.val k2.val k3.val ax0.val ax1.val ax2.val ax3.val ay0.val ay1.val ay2.val ay3.val ai.val) (fun w__=>pureRMul k0.val k1.val k2.val k3.val ax0.val ax1.val ax2.val ax3.val ay0.val ay1.val ay2.val ay3.val ai.val hr)⟩
 ·exact h.elim

def rBothSpec:CSpec
 | [.agg [.int .u64 j0,.int .u64 j1,.int .u64 j2,.int .u64 j3],.agg [.int .u64 k0,.int .u64 k1,.int .u64 k2,.int .u64 k3],.agg [.int .u64 ax0,.int .u64 ax1,.int .u64 ax2,.int .u64 ax3,.int .u64 ay0,.int .u64 ay1,.int .u64 ay2,.int .u64 ay3,.bool ai]],k=>((U64 j0.val)/\(U64 j1.val)/\(U64 j2.val)/\(U64 j3.val)/\(U64 k0.val)/\(U64 k1.val)/\(U64 k2.val)/\(U64 k3.val)/\(U64 ax0.val)/\(U64 ax1.val)/\(U64 ax2.val)/\(U64 ax3.val)/\(U64 ay0.val)/\(U64 ay1.val)/\(U64 ay2.val)/\(U64 ay3.val)/\(onP (val4 ax0.val ax1.val ax2.val ax3.val) (val4 ay0.val ay1.val ay2.val ay3.val) ai.val=true))/\(∀ r0:Int,r0=(cX (BF (val4 j0.val j1.val j2.val j3.val) (val4 k0.val k1.val k2.val k3.val) (pP (val4 ax0.val ax1.val ax2.val ax3.val) (val4 ay0.val ay1.val ay2.val ay3.val) ai.val)))->∀ r1:Int,r1=(cY (BF (val4 j0.val j1.val j2.val j3.val) (val4 k0.val k1.val k2.val k3.val) (pP (val4 ax0.val ax1.val ax2.val ax3.val) (val4 ay0.val ay1.val ay2.val ay3.val) ai.val)))->∀ r2:Bool,r2=(cB (BF (val4 j0.val j1.val j2.val j3.val) (val4 k0.val k1.val k2.val k3.val) (pP (val4 ax0.val ax1.val ax2.val ax3.val) (val4 ay0.val ay1.val ay2.val ay3.val) ai.val)))->k (.agg [.int .u64 (.sym (limb r0 0)),.int .u64 (.sym (limb r0 1)),.int .u64 (.sym (limb r0 2)),.int .u64 (.sym (limb r0 3)),.int .u64 (.sym (limb r1 0)),.int .u64 (.sym (limb r1 1)),.int .u64 (.sym (limb r1 2)),.int .u64 (.sym (limb r1 3)),.bool (.sym r2)]))
 | _,_=>False
def VCRBoth (j0:Int) (j1:Int) (j2:Int) (j3:Int) (k0:Int) (k1:Int) (k2:Int) (k3:Int) (ax0:Int) (ax1:Int) (ax2:Int) (ax3:Int) (ay0:Int) (ay1:Int) (ay2:Int) (ay3:Int) (ai:Bool):Prop :=
 (U64 17627433388654248598/\U64 8575836109218198432/\U64 17923454489921339634/\U64 7716867327612699207/\U64 14678990851816772085/\U64 3156516839386865358/\U64 10297457778147434006/\U64 5756518291402817435)/\∀ (v1:Int),v1=(48439561293906451759052585252797914202762949526041747995844080717082404635286:Int)->∀ (v2:Int),v2=(36134250956749795798585127919587881956611106672985015071877198253568414405109:Int)->∀ (v3:Int),v3=(1:Int)->(U64 j0/\U64 j1/\U64 j2/\U64 j3/\U64 (limb v1 0)/\U64 (limb v1 1)/\U64 (limb v1 2)/\U64 (limb v1 3)/\U64 (limb v2 0)/\U64 (limb v2 1)/\U64 (limb v2 2)/\U64 (limb v2 3)/\U64 (limb v3 0)/\U64 (limb v3 1)/\U64 (limb v3 2)/\U64 (limb v3 3))/\∀ v4,v4=(mulJ (val4 j0 j1 j2 j3) (val4 (limb v1 0) (limb v1 1) (limb v1 2) (limb v1 3),val4 (limb v2 0) (limb v2 1) (limb v2 2) (limb v2 3),val4 (limb v3 0) (limb v3 1) (limb v3 2) (limb v3 3))).fst->∀ v5,v5=(mulJ (val4 j0 j1 j2 j3) (val4 (limb v1 0) (limb v1 1) (limb v1 2) (limb v1 3),val4 (limb v2 0) (limb v2 1) (limb v2 2) (limb v2 3),val4 (limb v3 0) (limb v3 1) (limb v3 2) (limb v3 3))).snd.fst->∀ v6,v6=(mulJ (val4 j0 j1 j2 j3) (val4 (limb v1 0) (limb v1 1) (limb v1 2) (limb v1 3),val4 (limb v2 0) (limb v2 1) (limb v2 2) (limb v2 3),val4 (limb v3 0) (limb v3 1) (limb v3 2) (limb v3 3))).snd.snd->(U64 ax0/\U64 ax1/\U64 ax2/\U64 ax3/\U64 ay0/\U64 ay1/\U64 ay2/\U64 ay3)/\∀ v7,v7=(raJ ai (val4 ax0 ax1 ax2 ax3) (val4 ay0 ay1 ay2 ay3)).fst->∀ v8,v8=(raJ ai (val4 ax0 ax1 ax2 ax3) (val4 ay0 ay1 ay2 ay3)).snd.fst->∀ v9,v9=(raJ ai (val4 ax0 ax1 ax2 ax3) (val4 ay0 ay1 ay2 ay3)).snd.snd->(U64 k0/\U64 k1/\U64 k2/\U64 k3/\U64 (limb v7 0)/\U64 (limb v7 1)/\U64 (limb v7 2)/\U64 (limb v7 3)/\U64 (limb v8 0)/\U64 (limb v8 1)/\U64 (limb v8 2)/\U64 (limb v8 3)/\U64 (limb v9 0)/\U64 (limb v9 1)/\U64 (limb v9 2)/\U64 (limb v9 3))/\∀ v10,v10=(mulJ (val4 k0 k1 k2 k3) (val4 (limb v7 0) (limb v7 1) (limb v7 2) (limb v7 3),val4 (limb v8 0) (limb v8 1) (limb v8 2) (limb v8 3),val4 (limb v9 0) (limb v9 1) (limb v9 2) (limb v9 3))).fst->∀ v11,v11=(mulJ (val4 k0 k1 k2 k3) (val4 (limb v7 0) (limb v7 1) (limb v7 2) (limb v7 3),val4 (limb v8 0) (limb v8 1) (limb v8 2) (limb v8 3),val4 (limb v9 0) (limb v9 1) (limb v9 2) (limb v9 3))).snd.fst->∀ v12,v12=(mulJ (val4 k0 k1 k2 k3) (val4 (limb v7 0) (limb v7 1) (limb v7 2) (limb v7 3),val4 (limb v8 0) (limb v8 1) (limb v8 2) (limb v8 3),val4 (limb v9 0) (limb v9 1) (limb v9 2) (limb v9 3))).snd.snd->(U64 (limb v4 0)/\U64 (limb v4 1)/\U64 (limb v4 2)/\U64 (limb v4 3)/\U64 (limb v5 0)/\U64 (limb v5 1)/\U64 (limb v5 2)/\U64 (limb v5 3)/\U64 (limb v6 0)/\U64 (limb v6 1)/\U64 (limb v6 2)/\U64 (limb v6 3)/\U64 (limb v10 0)/\U64 (limb v10 1)/\U64 (limb v10 2)/\U64 (limb v10 3)/\U64 (limb v11 0)/\U64 (limb v11 1)/\U64 (limb v11 2)/\U64 (limb v11 3)/\U64 (limb v12 0)/\U64 (limb v12 1)/\U64 (limb v12 2)/\U64 (limb v12 3))/\∀ v13,v13=(plJ (val4 (limb v4 0) (limb v4 1) (limb v4 2) (limb v4 3),val4 (limb v5 0) (limb v5 1) (limb v5 2) (limb v5 3),val4 (limb v6 0) (limb v6 1) (limb v6 2) (limb v6 3)) (val4 (limb v10 0) (limb v10 1) (limb v10 2) (limb v10 3),val4 (limb v11 0) (limb v11 1) (limb v11 2) (limb v11 3),val4 (limb v12 0) (limb v12 1) (limb v12 2) (limb v12 3))).fst->∀ v14,v14=(plJ (val4 (limb v4 0) (limb v4 1) (limb v4 2) (limb v4 3),val4 (limb v5 0) (limb v5 1) (limb v5 2) (limb v5 3),val4 (limb v6 0) (limb v6 1) (limb v6 2) (limb v6 3)) (val4 (limb v10 0) (limb v10 1) (limb v10 2) (limb v10 3),val4 (limb v11 0) (limb v11 1) (limb v11 2) (limb v11 3),val4 (limb v12 0) (limb v12 1) (limb v12 2) (limb v12 3))).snd.fst->∀ v15,v15=(plJ (val4 (limb v4 0) (limb v4 1) (limb v4 2) (limb v4 3),val4 (limb v5 0) (limb v5 1) (limb v5 2) (limb v5 3),val4 (limb v6 0) (limb v6 1) (limb v6 2) (limb v6 3)) (val4 (limb v10 0) (limb v10 1) (limb v10 2) (limb v10 3),val4 (limb v11 0) (limb v11 1) (limb v11 2) (limb v11 3),val4 (limb v12 0) (limb v12 1) (limb v12 2) (limb v12 3))).snd.snd->(U64 (limb v13 0)/\U64 (limb v13 1)/\U64 (limb v13 2)/\U64 (limb v13 3)/\U64 (limb v14 0)/\U64 (limb v14 1)/\U64 (limb v14 2)/\U64 (limb v14 3)/\U64 (limb v15 0)/\U64 (limb v15 1)/\U64 (limb v15 2)/\U64 (limb v15 3))/\∀ v16,v16=lwX (val4 (limb v13 0) (limb v13 1) (limb v13 2) (limb v13 3),val4 (limb v14 0) (limb v14 1) (limb v14 2) (limb v14 3),val4 (limb v15 0) (limb v15 1) (limb v15 2) (limb v15 3))->∀ v17,v17=lwY (val4 (limb v13 0) (limb v13 1) (limb v13 2) (limb v13 3),val4 (limb v14 0) (limb v14 1) (limb v14 2) (limb v14 3),val4 (limb v15 0) (limb v15 1) (limb v15 2) (limb v15 3))->∀ v18,v18=pnB (val4 (limb v13 0) (limb v13 1) (limb v13 2) (limb v13 3),val4 (limb v14 0) (limb v14 1) (limb v14 2) (limb v14 3),val4 (limb v15 0) (limb v15 1) (limb v15 2) (limb v15 3))->(IntKind.u64=IntKind.u64/\limb v16 0=limb (cX (BF (val4 j0 j1 j2 j3) (val4 k0 k1 k2 k3) (pP (val4 ax0 ax1 ax2 ax3) (val4 ay0 ay1 ay2 ay3) ai))) 0)/\(IntKind.u64=IntKind.u64/\limb v16 1=limb (cX (BF (val4 j0 j1 j2 j3) (val4 k0 k1 k2 k3) (pP (val4 ax0 ax1 ax2 ax3) (val4 ay0 ay1 ay2 ay3) ai))) 1)/\(IntKind.u64=IntKind.u64/\limb v16 2=limb (cX (BF (val4 j0 j1 j2 j3) (val4 k0 k1 k2 k3) (pP (val4 ax0 ax1 ax2 ax3) (val4 ay0 ay1 ay2 ay3) ai))) 2)/\(IntKind.u64=IntKind.u64/\limb v16 3=limb (cX (BF (val4 j0 j1 j2 j3) (val4 k0 k1 k2 k3) (pP (val4 ax0 ax1 ax2 ax3) (val4 ay0 ay1 ay2 ay3) ai))) 3)/\(IntKind.u64=IntKind.u64/\limb v17 0=limb (cY (BF (val4 j0 j1 j2 j3) (val4 k0 k1 k2 k3) (pP (val4 ax0 ax1 ax2 ax3) (val4 ay0 ay1 ay2 ay3) ai))) 0)/\(IntKind.u64=IntKind.u64/\limb v17 1=limb (cY (BF (val4 j0 j1 j2 j3) (val4 k0 k1 k2 k3) (pP (val4 ax0 ax1 ax2 ax3) (val4 ay0 ay1 ay2 ay3) ai))) 1)/\(IntKind.u64=IntKind.u64/\limb v17 2=limb (cY (BF (val4 j0 j1 j2 j3) (val4 k0 k1 k2 k3) (pP (val4 ax0 ax1 ax2 ax3) (val4 ay0 ay1 ay2 ay3) ai))) 2)/\(IntKind.u64=IntKind.u64/\limb v17 3=limb (cY (BF (val4 j0 j1 j2 j3) (val4 k0 k1 k2 k3) (pP (val4 ax0 ax1 ax2 ax3) (val4 ay0 ay1 ay2 ay3) ai))) 3)/\v18=cB (BF (val4 j0 j1 j2 j3) (val4 k0 k1 k2 k3) (pP (val4 ax0 ax1 ax2 ax3) (val4 ay0 ay1 ay2 ay3) ai))/\True
theorem tieRBoth (w0:World) (j0:Int) (j1:Int) (j2:Int) (j3:Int) (k0:Int) (k1:Int) (k2:Int) (k3:Int) (ax0:Int) (ax1:Int) (ax2:Int) (ax3:Int) (ay0:Int) (ay1:Int) (ay2:Int) (ay3:Int) (ai:Bool):VCRBoth j0 j1 j2 j3 k0 k1 k2 k3 ax0 ax1 ax2 ax3 ay0 ay1 ay2 ay3 ai=((recN (GC Tryz.prog rf4Spec w0) 40).call 13 [.agg [.int .u64 (.sym j0),.int .u64 (.sym j1),.int .u64 (.sym j2),.int .u64 (.sym j3)],.agg [.int .u64 (.sym k0),.int .u64 (.sym k1),.int .u64 (.sym k2),.int .u64 (.sym k3)],.agg [.int .u64 (.sym ax0),.int .u64 (.sym ax1),.int .u64 (.sym ax2),.int .u64 (.sym ax3),.int .u64 (.sym ay0),.int .u64 (.sym ay1),.int .u64 (.sym ay2),.int .u64 (.sym ay3),.bool (.sym ai)]] [] (fun r__ _=>eqV r__ (.agg [.int .u64 (.sym (limb (cX (BF (val4 j0 j1 j2 j3) (val4 k0 k1 k2 k3) (pP (val4 ax0 ax1 ax2 ax3) (val4 ay0 ay1 ay2 ay3) ai))) 0)),.int .u64 (.sym (limb (cX (BF (val4 j0 j1 j2 j3) (val4 k0 k1 k2 k3) (pP (val4 ax0 ax1 ax2 ax3) (val4 ay0 ay1 ay2 ay3) ai))) 1)),.int .u64 (.sym (limb (cX (BF (val4 j0 j1 j2 j3) (val4 k0 k1 k2 k3) (pP (val4 ax0 ax1 ax2 ax3) (val4 ay0 ay1 ay2 ay3) ai))) 2)),.int .u64 (.sym (limb (cX (BF (val4 j0 j1 j2 j3) (val4 k0 k1 k2 k3) (pP (val4 ax0 ax1 ax2 ax3) (val4 ay0 ay1 ay2 ay3) ai))) 3)),.int .u64 (.sym (limb (cY (BF (val4 j0 j1 j2 j3) (val4 k0 k1 k2 k3) (pP (val4 ax0 ax1 ax2 ax3) (val4 ay0 ay1 ay2 ay3) ai))) 0)),.int .u64 (.sym (limb (cY (BF (val4 j0 j1 j2 j3) (val4 k0 k1 k2 k3) (pP (val4 ax0 ax1 ax2 ax3) (val4 ay0 ay1 ay2 ay3) ai))) 1)),.int .u64 (.sym (limb (cY (BF (val4 j0 j1 j2 j3) (val4 k0 k1 k2 k3) (pP (val4 ax0 ax1 ax2 ax3) (val4 ay0 ay1 ay2 ay3) ai))) 2)),.int .u64 (.sym (limb (cY (BF (val4 j0 j1 j2 j3) (val4 k0 k1 k2 k3) (pP (val4 ax0 ax1 ax2 ax3) (val4 ay0 ay1 ay2 ay3) ai))) 3)),.bool (.sym (cB (BF (val4 j0 j1 j2 j3) (val4 k0 k1 k2 k3) (pP (val4 ax0 ax1 ax2 ax3) (val4 ay0 ay1 ay2 ay3) ai))))]))):=by kernel_rfl
theorem pureRBoth (j0 j1 j2 j3 k0 k1 k2 k3 ax0 ax1 ax2 ax3 ay0 ay1 ay2 ay3:Int) (ai:Bool) (h:U64 j0/\U64 j1/\U64 j2/\U64 j3/\U64 k0/\U64 k1/\U64 k2/\U64 k3/\U64 ax0/\U64 ax1/\U64 ax2/\U64 ax3/\U64 ay0/\U64 ay1/\U64 ay2/\U64 ay3/\onP (val4 ax0 ax1 ax2 ax3) (val4 ay0 ay1 ay2 ay3) ai=true):VCRBoth j0 j1 j2 j3 k0 k1 k2 k3 ax0 ax1 ax2 ax3 ay0 ay1 ay2 ay3 ai:=by
 obtain ⟨hj0,hj1,hj2,hj3,hk0,hk1,hk2,hk3,hax0,hax1,hax2,hax3,hay0,hay1,hay2,hay3,ho⟩:=h
 have eax0:U64 ax0=True:=eq_true hax0
 have eax1:U64 ax1=True:=eq_true hax1
 have eax2:U64 ax2=True:=eq_true hax2
 have eax3:U64 ax3=True:=eq_true hax3
 have eay0:U64 ay0=True:=eq_true hay0
 have eay1:U64 ay1=True:=eq_true hay1
 have eay2:U64 ay2=True:=eq_true hay2
 have eay3:U64 ay3=True:=eq_true hay3
 have ek0:U64 k0=True:=eq_true hk0
 have ek1:U64 k1=True:=eq_true hk1
 have ek2:U64 k2=True:=eq_true hk2
 have ek3:U64 k3=True:=eq_true hk3
 have ej0:U64 j0=True:=eq_true hj0
 have ej1:U64 j1=True:=eq_true hj1
 have ej2:U64 j2=True:=eq_true hj2
 have ej3:U64 j3=True:=eq_true hj3
 have bj:=val4_lt hj0 hj1 hj2 hj3
 have bk:=val4_lt hk0 hk1 hk2 hk3
 have bx:=val4_lt hax0 hax1 hax2 hax3
 have by_:=val4_lt hay0 hay1 hay2 hay3
 have na:inB (raJ ai (val4 ax0 ax1 ax2 ax3) (val4 ay0 ay1 ay2 ay3)):=inB_ra bx by_
 have nm:=inB_mj (k:=val4 k0 k1 k2 k3) na
 have ng:inB (48439561293906451759052585252797914202762949526041747995844080717082404635286,36134250956749795798585127919587881956611106672985015071877198253568414405109,1):=by unfold inB; decide
 have nj:=inB_mj (k:=val4 j0 j1 j2 j3) ng
 have np:=inB_pj nj nm
 obtain ⟨r1,r2,r3⟩:=lw_RJ ((mulJ_RJ G_RJ bj).plus (mulJ_RJ (ra_RJ ho bx.1 by_.1) bk))
 have g0:∀ a b:Int,val4 17627433388654248598 8575836109218198432 17923454489921339634 7716867327612699207=a->val4 14678990851816772085 3156516839386865358 10297457778147434006 5756518291402817435=b->raJ false (val4 17627433388654248598 8575836109218198432 17923454489921339634 7716867327612699207) (val4 14678990851816772085 3156516839386865358 10297457778147434006 5756518291402817435)=(a,b,1):=fun a b ha hb=>by rw [ha,hb]; rfl
 have g1:=g0 48439561293906451759052585252797914202762949526041747995844080717082404635286 36134250956749795798585127919587881956611106672985015071877198253568414405109 rfl rfl
 rw [fold_bf] at r1 r2 r3
 unfold VCRBoth
 simp only [forall_eq,ulP,eax0,eax1,eax2,eax3,eay0,eay1,eay2,eay3,ek0,ek1,ek2,ek3,ej0,ej1,ej2,ej3,true_and,g1,lBd na.1,lBd na.2.1,lBd na.2.2,eta3,lBd nm.1,lBd nm.2.1,lBd nm.2.2,lBd nj.1,lBd nj.2.1,lBd nj.2.2,lBd ng.1,lBd ng.2.1,lBd ng.2.2,lBd np.1,lBd np.2.1,lBd np.2.2,r1,r2,r3,and_self]
 exact ⟨by decide,trivial⟩
theorem rBoth_ok:SpecOk Tryz.prog 13 rBothSpec:=by
 intro args k h
 unfold rBothSpec at h
 split at h
 ·rename_i j0 j1 j2 j3 k0 k1 k2 k3 ax0 ax1 ax2 ax3 ay0 ay1 ay2 ay3 ai
  obtain ⟨hr,h⟩:=h
  exact ⟨_,h _ rfl _ rfl _ rfl,PureOk.of_tie (GC Tryz.prog rf4Spec) (fun w__=>gok w__ namesOk_ mixed_ rf4_ok) (fun _=>rfl) (fun _=>rfl) (args':=[.agg [.int .u64 (.sym j0.val),.int .u64 (.sym j1.val),.int .u64 (.sym j2.val),.int .u64 (.sym j3.val)],.agg [.int .u64 (.sym k0.val),.int .u64 (.sym k1.val),.int .u64 (.sym k2.val),.int .u64 (.sym k3.val)],.agg [.int .u64 (.sym ax0.val),.int .u64 (.sym ax1.val),.int .u64 (.sym ax2.val),.int .u64 (.sym ax3.val),.int .u64 (.sym ay0.val),.int .u64 (.sym ay1.val),.int .u64 (.sym ay2.val),.int .u64 (.sym ay3.val),.bool (.sym ai.val)]]) ⟨⟨⟨rfl,rfl⟩,⟨rfl,rfl⟩,⟨rfl,rfl⟩,⟨rfl,rfl⟩,trivial⟩,⟨⟨rfl,rfl⟩,⟨rfl,rfl⟩,⟨rfl,rfl⟩,⟨rfl,rfl⟩,trivial⟩,⟨⟨rfl,rfl⟩,⟨rfl,rfl⟩,⟨rfl,rfl⟩,⟨rfl,rfl⟩,⟨rfl,rfl⟩,⟨rfl,rfl⟩,⟨rfl,rfl⟩,⟨rfl,rfl⟩,rfl,trivial⟩,trivial⟩ 40 (fun w__=>VCRBoth j0.val j1.val j2.val j3.val k0.val k1.val k2.val k3.val ax0.val ax1.val ax2.val ax3.val ay0.val ay1.val ay2.val ay3.val ai.val) (fun w__=>tieRBoth w__ j0.val j1.val j2.val j3.val k0.val k1.val k2.val k3.val ax0.val ax1.val ax2.val ax3.val ay0.val ay1.val ay2.val ay3.val ai.val) (fun w__=>pureRBoth j0.val j1.val j2.val j3.val k0.val k1.val k2.val k3.val ax0.val ax1.val ax2.val ax3.val ay0.val ay1.val ay2.val ay3.val ai.val hr)⟩
 ·exact h.elim

end Go.Proofs.YtaaobpalpcdlbaaGreat.Bits
namespace Go.Proofs.YtaaobpalpcdlbaaGreat.Bits
open Go Go.Sx Go.RowKit Go.EC
set_option linter.unusedVariables false
set_option linter.unusedSimpArgs false
set_option maxRecDepth 100000
def rf5Spec:List (FuncId×CSpec):=[(26,rMul4Spec),(27,rSub4Spec),(37,rSlopeSpec)]
theorem rf5_ok:SpecsOk Tryz.prog rf5Spec:=⟨rMul4_ok,rSub4_ok,rSlope_ok,trivial⟩
theorem add_of {x1 y1 x2 y2 t:Fin p256} {X1 Y1 X2 T:Int} (hA:C256.on (.A x1 y1)) (hB:C256.on (.A x2 y2)) (hd:¬ (x1=x2/\y1+y2=0)) (h:C256.Sl x1 y1 x2 y2 t) (e1:x1=f2 X1) (e2:y1=f2 Y1) (e3:x2=f2 X2) (e4:t=f2 T) :
  cX (C256.add (.A x1 y1) (.A x2 y2))=sI (sI (tI T T) X1) X2/\cY (C256.add (.A x1 y1) (.A x2 y2))=sI (tI T (sI X1 (sI (sI (tI T T) X1) X2))) Y1/\cB (C256.add (.A x1 y1) (.A x2 y2))=false:=by
 rw [add_slope hA hB hd h]
 refine ⟨?_,?_,rfl⟩
 ·have e:t*t-x1-x2=f2 (sI (sI (tI T T) X1) X2):=by rw [f2_sI,f2_sI,f2_tI,e1,e3,e4]
  show ((t*t-x1-x2).val:Int)=_
  rw [e]; exact f2_val (in_mod _)
 ·have e:t*(x1-(t*t-x1-x2))-y1=f2 (sI (tI T (sI X1 (sI (sI (tI T T) X1) X2))) Y1):=by rw [f2_sI,f2_tI,f2_sI,f2_sI,f2_sI,f2_tI,e1,e2,e3,e4]
  show ((t*(x1-(t*t-x1-x2))-y1).val:Int)=_
  rw [e]; exact f2_val (in_mod _)
theorem add_none {X1 Y1 X2 Y2:Int} (h:slB X1 Y1 X2 Y2=false):C256.add (pP X1 Y1 false) (pP X2 Y2 false) = .O:=by
 unfold slB at h
 have h:X1=X2/\aI Y1 Y2=0:=by simpa using h
 refine if_pos ⟨by rw [h.1],?_⟩
 rw [← f2_aI,h.2]; rfl
theorem add_some {X1 Y1 X2 Y2:Int} (h1:onP X1 Y1 false=true) (h2:onP X2 Y2 false=true) (n1:0<=X1) (n2:0<=X2) (n3:0<=Y1) (n4:0<=Y2) (h:slB X1 Y1 X2 Y2=true) :
  cX (C256.add (pP X1 Y1 false) (pP X2 Y2 false))=sI (sI (tI (slF X1 Y1 X2 Y2) (slF X1 Y1 X2 Y2)) X1) X2/\cY (C256.add (pP X1 Y1 false) (pP X2 Y2 false))=sI (tI (slF X1 Y1 X2 Y2) (sI X1 (sI (sI (tI (slF X1 Y1 X2 Y2) (slF X1 Y1 X2 Y2)) X1) X2))) Y1/\cB (C256.add (pP X1 Y1 false) (pP X2 Y2 false))=false:=by
 have oA:C256.on (.A (f2 X1) (f2 Y1)):=on_pP h1
 have oB:C256.on (.A (f2 X2) (f2 Y2)):=on_pP h2
 obtain ⟨⟨b1,b3⟩,_⟩:=on_fin h1
 obtain ⟨⟨b2,b4⟩,_⟩:=on_fin h2
 by_cases c:X1=X2
 ·have d:aI Y1 Y2≠0:=by
   intro d; unfold slB at h; simp [c,d] at h
  have s0:f2 Y1+f2 Y2≠0:=by
   rw [← f2_aI]; exact fun z=>d ((f2_zero (in_mod _)).1 z)
  have ex:f2 X2=f2 X1:=by rw [c]
  have ey:f2 Y1=f2 Y2:=(C256.eq_neg_or (x:=f2 X1) oA (ex▸oB)).resolve_right s0
  have y0:f2 Y1≠0:=fun z=>s0 (by rw [← ey,z]; grind -lia)
  have w0:aI Y1 Y1≠0:=by
   intro z
   have:=f2_aI Y1 Y1
   rw [z] at this
   exact s0 (by rw [← ey,← this]; rfl)
  have iv:=inv_f2 (z:=aI Y1 Y1) (in_mod _) w0
  rw [f2_aI] at iv
  have e:slF X1 Y1 X2 Y2=tI (tI 3 (sI (tI X1 X1) 1)) (invF (aI Y1 Y1) 115792089210356248762697446949407573530086143415290314195533631308867097853951):=by unfold slF; rw [if_pos c,if_neg d]
  have sl:=sl_near (x:=f2 X1) y0 iv
  rw [e]
  refine add_of oA oB (fun z=>s0 z.2) (by rw [ex,← ey]; exact sl) rfl rfl rfl ?_
  rw [f2_tI,f2_tI,f2_sI,f2_tI,f2_num.2.1,f2_01.2]
 ·have hx:f2 X1≠f2 X2:=fun z=>c (toF_inj (p:=p256) ⟨n1,b1⟩ ⟨n2,b2⟩ z)
  have w0:sI X2 X1≠0:=by
   intro z
   have:=f2_sI X2 X1
   rw [z] at this
   have k:f2 X2-f2 X1=0:=this.symm
   exact hx (by grind -lia)
  have iv:=inv_f2 (z:=sI X2 X1) (in_mod _) w0
  rw [f2_sI] at iv
  have e:slF X1 Y1 X2 Y2=tI (sI Y2 Y1) (invF (sI X2 X1) 115792089210356248762697446949407573530086143415290314195533631308867097853951):=by unfold slF; rw [if_neg c]
  have sl:=sl_far oA oB hx iv
  rw [e]
  refine add_of oA oB (fun z=>hx z.1) sl rfl rfl rfl ?_
  rw [f2_tI,f2_sI]
theorem lslF (a b c d:Int):val4 (limb (slF a b c d) 0) (limb (slF a b c d) 1) (limb (slF a b c d) 2) (limb (slF a b c d) 3)=slF a b c d:=by
 unfold slF
 split
 ·split
  ·decide +kernel
  ·exact ltI _ _
 ·exact ltI _ _
def rPAddSpec:CSpec
 | [.agg [.int .u64 ax0,.int .u64 ax1,.int .u64 ax2,.int .u64 ax3,.int .u64 ay0,.int .u64 ay1,.int .u64 ay2,.int .u64 ay3,.bool ai],.agg [.int .u64 bx0,.int .u64 bx1,.int .u64 bx2,.int .u64 bx3,.int .u64 by0,.int .u64 by1,.int .u64 by2,.int .u64 by3,.bool bi]],k=>((U64 ax0.val)/\(U64 ax1.val)/\(U64 ax2.val)/\(U64 ax3.val)/\(U64 ay0.val)/\(U64 ay1.val)/\(U64 ay2.val)/\(U64 ay3.val)/\(U64 bx0.val)/\(U64 bx1.val)/\(U64 bx2.val)/\(U64 bx3.val)/\(U64 by0.val)/\(U64 by1.val)/\(U64 by2.val)/\(U64 by3.val)/\((onP (val4 ax0.val ax1.val ax2.val ax3.val) (val4 ay0.val ay1.val ay2.val ay3.val) ai.val=true/\onP (val4 bx0.val bx1.val bx2.val bx3.val) (val4 by0.val by1.val by2.val by3.val) bi.val=true)))/\(∀ r0:Int,r0=(cX (C256.add (pP (val4 ax0.val ax1.val ax2.val ax3.val) (val4 ay0.val ay1.val ay2.val ay3.val) ai.val) (pP (val4 bx0.val bx1.val bx2.val bx3.val) (val4 by0.val by1.val by2.val by3.val) bi.val)))->∀ r1:Int,r1=(cY (C256.add (pP (val4 ax0.val ax1.val ax2.val ax3.val) (val4 ay0.val ay1.val ay2.val ay3.val) ai.val) (pP (val4 bx0.val bx1.val bx2.val bx3.val) (val4 by0.val by1.val by2.val by3.val) bi.val)))->∀ r2:Bool,r2=(cB (C256.add (pP (val4 ax0.val ax1.val ax2.val ax3.val) (val4 ay0.val ay1.val ay2.val ay3.val) ai.val) (pP (val4 bx0.val bx1.val bx2.val bx3.val) (val4 by0.val by1.val by2.val by3.val) bi.val)))->k (.agg [.int .u64 (.sym (limb r0 0)),.int .u64 (.sym (limb r0 1)),.int .u64 (.sym (limb r0 2)),.int .u64 (.sym (limb r0 3)),.int .u64 (.sym (limb r1 0)),.int .u64 (.sym (limb r1 1)),.int .u64 (.sym (limb r1 2)),.int .u64 (.sym (limb r1 3)),.bool (.sym r2)]))
 | _,_=>False
def VCRPAdd (ax0:Int) (ax1:Int) (ax2:Int) (ax3:Int) (ay0:Int) (ay1:Int) (ay2:Int) (ay3:Int) (ai:Bool) (bx0:Int) (bx1:Int) (bx2:Int) (bx3:Int) (by0:Int) (by1:Int) (by2:Int) (by3:Int) (bi:Bool):Prop :=
 (ai=true->(IntKind.u64=IntKind.u64/\bx0=limb (cX (C256.add (pP (val4 ax0 ax1 ax2 ax3) (val4 ay0 ay1 ay2 ay3) ai) (pP (val4 bx0 bx1 bx2 bx3) (val4 by0 by1 by2 by3) bi))) 0)/\(IntKind.u64=IntKind.u64/\bx1=limb (cX (C256.add (pP (val4 ax0 ax1 ax2 ax3) (val4 ay0 ay1 ay2 ay3) ai) (pP (val4 bx0 bx1 bx2 bx3) (val4 by0 by1 by2 by3) bi))) 1)/\(IntKind.u64=IntKind.u64/\bx2=limb (cX (C256.add (pP (val4 ax0 ax1 ax2 ax3) (val4 ay0 ay1 ay2 ay3) ai) (pP (val4 bx0 bx1 bx2 bx3) (val4 by0 by1 by2 by3) bi))) 2)/\(IntKind.u64=IntKind.u64/\bx3=limb (cX (C256.add (pP (val4 ax0 ax1 ax2 ax3) (val4 ay0 ay1 ay2 ay3) ai) (pP (val4 bx0 bx1 bx2 bx3) (val4 by0 by1 by2 by3) bi))) 3)/\(IntKind.u64=IntKind.u64/\by0=limb (cY (C256.add (pP (val4 ax0 ax1 ax2 ax3) (val4 ay0 ay1 ay2 ay3) ai) (pP (val4 bx0 bx1 bx2 bx3) (val4 by0 by1 by2 by3) bi))) 0)/\(IntKind.u64=IntKind.u64/\by1=limb (cY (C256.add (pP (val4 ax0 ax1 ax2 ax3) (val4 ay0 ay1 ay2 ay3) ai) (pP (val4 bx0 bx1 bx2 bx3) (val4 by0 by1 by2 by3) bi))) 1)/\(IntKind.u64=IntKind.u64/\by2=limb (cY (C256.add (pP (val4 ax0 ax1 ax2 ax3) (val4 ay0 ay1 ay2 ay3) ai) (pP (val4 bx0 bx1 bx2 bx3) (val4 by0 by1 by2 by3) bi))) 2)/\(IntKind.u64=IntKind.u64/\by3=limb (cY (C256.add (pP (val4 ax0 ax1 ax2 ax3) (val4 ay0 ay1 ay2 ay3) ai) (pP (val4 bx0 bx1 bx2 bx3) (val4 by0 by1 by2 by3) bi))) 3)/\bi=cB (C256.add (pP (val4 ax0 ax1 ax2 ax3) (val4 ay0 ay1 ay2 ay3) ai) (pP (val4 bx0 bx1 bx2 bx3) (val4 by0 by1 by2 by3) bi))/\True)/\(ai=false->(bi=true->(IntKind.u64=IntKind.u64/\ax0=limb (cX (C256.add (pP (val4 ax0 ax1 ax2 ax3) (val4 ay0 ay1 ay2 ay3) ai) (pP (val4 bx0 bx1 bx2 bx3) (val4 by0 by1 by2 by3) bi))) 0)/\(IntKind.u64=IntKind.u64/\ax1=limb (cX (C256.add (pP (val4 ax0 ax1 ax2 ax3) (val4 ay0 ay1 ay2 ay3) ai) (pP (val4 bx0 bx1 bx2 bx3) (val4 by0 by1 by2 by3) bi))) 1)/\(IntKind.u64=IntKind.u64/\ax2=limb (cX (C256.add (pP (val4 ax0 ax1 ax2 ax3) (val4 ay0 ay1 ay2 ay3) ai) (pP (val4 bx0 bx1 bx2 bx3) (val4 by0 by1 by2 by3) bi))) 2)/\(IntKind.u64=IntKind.u64/\ax3=limb (cX (C256.add (pP (val4 ax0 ax1 ax2 ax3) (val4 ay0 ay1 ay2 ay3) ai) (pP (val4 bx0 bx1 bx2 bx3) (val4 by0 by1 by2 by3) bi))) 3)/\(IntKind.u64=IntKind.u64/\ay0=limb (cY (C256.add (pP (val4 ax0 ax1 ax2 ax3) (val4 ay0 ay1 ay2 ay3) ai) (pP (val4 bx0 bx1 bx2 bx3) (val4 by0 by1 by2 by3) bi))) 0)/\(IntKind.u64=IntKind.u64/\ay1=limb (cY (C256.add (pP (val4 ax0 ax1 ax2 ax3) (val4 ay0 ay1 ay2 ay3) ai) (pP (val4 bx0 bx1 bx2 bx3) (val4 by0 by1 by2 by3) bi))) 1)/\(IntKind.u64=IntKind.u64/\ay2=limb (cY (C256.add (pP (val4 ax0 ax1 ax2 ax3) (val4 ay0 ay1 ay2 ay3) ai) (pP (val4 bx0 bx1 bx2 bx3) (val4 by0 by1 by2 by3) bi))) 2)/\(IntKind.u64=IntKind.u64/\ay3=limb (cY (C256.add (pP (val4 ax0 ax1 ax2 ax3) (val4 ay0 ay1 ay2 ay3) ai) (pP (val4 bx0 bx1 bx2 bx3) (val4 by0 by1 by2 by3) bi))) 3)/\ai=cB (C256.add (pP (val4 ax0 ax1 ax2 ax3) (val4 ay0 ay1 ay2 ay3) ai) (pP (val4 bx0 bx1 bx2 bx3) (val4 by0 by1 by2 by3) bi))/\True)/\(bi=false->(U64 ax0/\U64 ax1/\U64 ax2/\U64 ax3/\U64 ay0/\U64 ay1/\U64 ay2/\U64 ay3/\U64 bx0/\U64 bx1/\U64 bx2/\U64 bx3/\U64 by0/\U64 by1/\U64 by2/\U64 by3)/\∀ v1,v1=slF (val4 ax0 ax1 ax2 ax3) (val4 ay0 ay1 ay2 ay3) (val4 bx0 bx1 bx2 bx3) (val4 by0 by1 by2 by3)->∀ v2,v2=slB (val4 ax0 ax1 ax2 ax3) (val4 ay0 ay1 ay2 ay3) (val4 bx0 bx1 bx2 bx3) (val4 by0 by1 by2 by3)->∀ (v3:Bool),v3=!v2->(v3=true->(IntKind.u64=IntKind.u64/\0=limb (cX (C256.add (pP (val4 ax0 ax1 ax2 ax3) (val4 ay0 ay1 ay2 ay3) ai) (pP (val4 bx0 bx1 bx2 bx3) (val4 by0 by1 by2 by3) bi))) 0)/\(IntKind.u64=IntKind.u64/\0=limb (cX (C256.add (pP (val4 ax0 ax1 ax2 ax3) (val4 ay0 ay1 ay2 ay3) ai) (pP (val4 bx0 bx1 bx2 bx3) (val4 by0 by1 by2 by3) bi))) 1)/\(IntKind.u64=IntKind.u64/\0=limb (cX (C256.add (pP (val4 ax0 ax1 ax2 ax3) (val4 ay0 ay1 ay2 ay3) ai) (pP (val4 bx0 bx1 bx2 bx3) (val4 by0 by1 by2 by3) bi))) 2)/\(IntKind.u64=IntKind.u64/\0=limb (cX (C256.add (pP (val4 ax0 ax1 ax2 ax3) (val4 ay0 ay1 ay2 ay3) ai) (pP (val4 bx0 bx1 bx2 bx3) (val4 by0 by1 by2 by3) bi))) 3)/\(IntKind.u64=IntKind.u64/\0=limb (cY (C256.add (pP (val4 ax0 ax1 ax2 ax3) (val4 ay0 ay1 ay2 ay3) ai) (pP (val4 bx0 bx1 bx2 bx3) (val4 by0 by1 by2 by3) bi))) 0)/\(IntKind.u64=IntKind.u64/\0=limb (cY (C256.add (pP (val4 ax0 ax1 ax2 ax3) (val4 ay0 ay1 ay2 ay3) ai) (pP (val4 bx0 bx1 bx2 bx3) (val4 by0 by1 by2 by3) bi))) 1)/\(IntKind.u64=IntKind.u64/\0=limb (cY (C256.add (pP (val4 ax0 ax1 ax2 ax3) (val4 ay0 ay1 ay2 ay3) ai) (pP (val4 bx0 bx1 bx2 bx3) (val4 by0 by1 by2 by3) bi))) 2)/\(IntKind.u64=IntKind.u64/\0=limb (cY (C256.add (pP (val4 ax0 ax1 ax2 ax3) (val4 ay0 ay1 ay2 ay3) ai) (pP (val4 bx0 bx1 bx2 bx3) (val4 by0 by1 by2 by3) bi))) 3)/\true=cB (C256.add (pP (val4 ax0 ax1 ax2 ax3) (val4 ay0 ay1 ay2 ay3) ai) (pP (val4 bx0 bx1 bx2 bx3) (val4 by0 by1 by2 by3) bi))/\True)/\(v3=false->(U64 (limb v1 0)/\U64 (limb v1 1)/\U64 (limb v1 2)/\U64 (limb v1 3)/\U64 (limb v1 0)/\U64 (limb v1 1)/\U64 (limb v1 2)/\U64 (limb v1 3))/\∀ v4,v4=tI (val4 (limb v1 0) (limb v1 1) (limb v1 2) (limb v1 3)) (val4 (limb v1 0) (limb v1 1) (limb v1 2) (limb v1 3))->(U64 (limb v4 0)/\U64 (limb v4 1)/\U64 (limb v4 2)/\U64 (limb v4 3)/\U64 ax0/\U64 ax1/\U64 ax2/\U64 ax3)/\∀ v5,v5=sI (val4 (limb v4 0) (limb v4 1) (limb v4 2) (limb v4 3)) (val4 ax0 ax1 ax2 ax3)->(U64 (limb v5 0)/\U64 (limb v5 1)/\U64 (limb v5 2)/\U64 (limb v5 3)/\U64 bx0/\U64 bx1/\U64 bx2/\U64 bx3)/\∀ v6,v6=sI (val4 (limb v5 0) (limb v5 1) (limb v5 2) (limb v5 3)) (val4 bx0 bx1 bx2 bx3)->(U64 ax0/\U64 ax1/\U64 ax2/\U64 ax3/\U64 (limb v6 0)/\U64 (limb v6 1)/\U64 (limb v6 2)/\U64 (limb v6 3))/\∀ v7,v7=sI (val4 ax0 ax1 ax2 ax3) (val4 (limb v6 0) (limb v6 1) (limb v6 2) (limb v6 3))->(U64 (limb v1 0)/\U64 (limb v1 1)/\U64 (limb v1 2)/\U64 (limb v1 3)/\U64 (limb v7 0)/\U64 (limb v7 1)/\U64 (limb v7 2)/\U64 (limb v7 3))/\∀ v8,v8=tI (val4 (limb v1 0) (limb v1 1) (limb v1 2) (limb v1 3)) (val4 (limb v7 0) (limb v7 1) (limb v7 2) (limb v7 3))->(U64 (limb v8 0)/\U64 (limb v8 1)/\U64 (limb v8 2)/\U64 (limb v8 3)/\U64 ay0/\U64 ay1/\U64 ay2/\U64 ay3)/\∀ v9,v9=sI (val4 (limb v8 0) (limb v8 1) (limb v8 2) (limb v8 3)) (val4 ay0 ay1 ay2 ay3)->(IntKind.u64=IntKind.u64/\limb v6 0=limb (cX (C256.add (pP (val4 ax0 ax1 ax2 ax3) (val4 ay0 ay1 ay2 ay3) ai) (pP (val4 bx0 bx1 bx2 bx3) (val4 by0 by1 by2 by3) bi))) 0)/\(IntKind.u64=IntKind.u64/\limb v6 1=limb (cX (C256.add (pP (val4 ax0 ax1 ax2 ax3) (val4 ay0 ay1 ay2 ay3) ai) (pP (val4 bx0 bx1 bx2 bx3) (val4 by0 by1 by2 by3) bi))) 1)/\(IntKind.u64=IntKind.u64/\limb v6 2=limb (cX (C256.add (pP (val4 ax0 ax1 ax2 ax3) (val4 ay0 ay1 ay2 ay3) ai) (pP (val4 bx0 bx1 bx2 bx3) (val4 by0 by1 by2 by3) bi))) 2)/\(IntKind.u64=IntKind.u64/\limb v6 3=limb (cX (C256.add (pP (val4 ax0 ax1 ax2 ax3) (val4 ay0 ay1 ay2 ay3) ai) (pP (val4 bx0 bx1 bx2 bx3) (val4 by0 by1 by2 by3) bi))) 3)/\(IntKind.u64=IntKind.u64/\limb v9 0=limb (cY (C256.add (pP (val4 ax0 ax1 ax2 ax3) (val4 ay0 ay1 ay2 ay3) ai) (pP (val4 bx0 bx1 bx2 bx3) (val4 by0 by1 by2 by3) bi))) 0)/\(IntKind.u64=IntKind.u64/\limb v9 1=limb (cY (C256.add (pP (val4 ax0 ax1 ax2 ax3) (val4 ay0 ay1 ay2 ay3) ai) (pP (val4 bx0 bx1 bx2 bx3) (val4 by0 by1 by2 by3) bi))) 1)/\(IntKind.u64=IntKind.u64/\limb v9 2=limb (cY (C256.add (pP (val4 ax0 ax1 ax2 ax3) (val4 ay0 ay1 ay2 ay3) ai) (pP (val4 bx0 bx1 bx2 bx3) (val4 by0 by1 by2 by3) bi))) 2)/\(IntKind.u64=IntKind.u64/\limb v9 3=limb (cY (C256.add (pP (val4 ax0 ax1 ax2 ax3) (val4 ay0 ay1 ay2 ay3) ai) (pP (val4 bx0 bx1 bx2 bx3) (val4 by0 by1 by2 by3) bi))) 3)/\false=cB (C256.add (pP (val4 ax0 ax1 ax2 ax3) (val4 ay0 ay1 ay2 ay3) ai) (pP (val4 bx0 bx1 bx2 bx3) (val4 by0 by1 by2 by3) bi))/\True)))
theorem tieRPAdd (w0:World) (ax0:Int) (ax1:Int) (ax2:Int) (ax3:Int) (ay0:Int) (ay1:Int) (ay2:Int) (ay3:Int) (ai:Bool) (bx0:Int) (bx1:Int) (bx2:Int) (bx3:Int) (by0:Int) (by1:Int) (by2:Int) (by3:Int) (bi:Bool):VCRPAdd ax0 ax1 ax2 ax3 ay0 ay1 ay2 ay3 ai bx0 bx1 bx2 bx3 by0 by1 by2 by3 bi=((recN (GC Tryz.prog rf5Spec w0) 40).call 9 [.agg [.int .u64 (.sym ax0),.int .u64 (.sym ax1),.int .u64 (.sym ax2),.int .u64 (.sym ax3),.int .u64 (.sym ay0),.int .u64 (.sym ay1),.int .u64 (.sym ay2),.int .u64 (.sym ay3),.bool (.sym ai)],.agg [.int .u64 (.sym bx0),.int .u64 (.sym bx1),.int .u64 (.sym bx2),.int .u64 (.sym bx3),.int .u64 (.sym by0),.int .u64 (.sym by1),.int .u64 (.sym by2),.int .u64 (.sym by3),.bool (.sym bi)]] [] (fun r__ _=>eqV r__ (.agg [.int .u64 (.sym (limb (cX (C256.add (pP (val4 ax0 ax1 ax2 ax3) (val4 ay0 ay1 ay2 ay3) ai) (pP (val4 bx0 bx1 bx2 bx3) (val4 by0 by1 by2 by3) bi))) 0)),.int .u64 (.sym (limb (cX (C256.add (pP (val4 ax0 ax1 ax2 ax3) (val4 ay0 ay1 ay2 ay3) ai) (pP (val4 bx0 bx1 bx2 bx3) (val4 by0 by1 by2 by3) bi))) 1)),.int .u64 (.sym (limb (cX (C256.add (pP (val4 ax0 ax1 ax2 ax3) (val4 ay0 ay1 ay2 ay3) ai) (pP (val4 bx0 bx1 bx2 bx3) (val4 by0 by1 by2 by3) bi))) 2)),.int .u64 (.sym (limb (cX (C256.add (pP (val4 ax0 ax1 ax2 ax3) (val4 ay0 ay1 ay2 ay3) ai) (pP (val4 bx0 bx1 bx2 bx3) (val4 by0 by1 by2 by3) bi))) 3)),.int .u64 (.sym (limb (cY (C256.add (pP (val4 ax0 ax1 ax2 ax3) (val4 ay0 ay1 ay2 ay3) ai) (pP (val4 bx0 bx1 bx2 bx3) (val4 by0 by1 by2 by3) bi))) 0)),.int .u64 (.sym (limb (cY (C256.add (pP (val4 ax0 ax1 ax2 ax3) (val4 ay0 ay1 ay2 ay3) ai) (pP (val4 bx0 bx1 bx2 bx3) (val4 by0 by1 by2 by3) bi))) 1)),.int .u64 (.sym (limb (cY (C256.add (pP (val4 ax0 ax1 ax2 ax3) (val4 ay0 ay1 ay2 ay3) ai) (pP (val4 bx0 bx1 bx2 bx3) (val4 by0 by1 by2 by3) bi))) 2)),.int .u64 (.sym (limb (cY (C256.add (pP (val4 ax0 ax1 ax2 ax3) (val4 ay0 ay1 ay2 ay3) ai) (pP (val4 bx0 bx1 bx2 bx3) (val4 by0 by1 by2 by3) bi))) 3)),.bool (.sym (cB (C256.add (pP (val4 ax0 ax1 ax2 ax3) (val4 ay0 ay1 ay2 ay3) ai) (pP (val4 bx0 bx1 bx2 bx3) (val4 by0 by1 by2 by3) bi))))]))):=by kernel_rfl
theorem pureRPAdd (ax0 ax1 ax2 ax3 ay0 ay1 ay2 ay3:Int) (ai:Bool) (bx0 bx1 bx2 bx3 by0 by1 by2 by3:Int) (bi:Bool) (h:U64 ax0/\U64 ax1/\U64 ax2/\U64 ax3/\U64 ay0/\U64 ay1/\U64 ay2/\U64 ay3/\U64 bx0/\U64 bx1/\U64 bx2/\U64 bx3/\U64 by0/\U64 by1/\U64 by2/\U64 by3/\(onP (val4 ax0 ax1 ax2 ax3) (val4 ay0 ay1 ay2 ay3) ai=true/\onP (val4 bx0 bx1 bx2 bx3) (val4 by0 by1 by2 by3) bi=true)):VCRPAdd ax0 ax1 ax2 ax3 ay0 ay1 ay2 ay3 ai bx0 bx1 bx2 bx3 by0 by1 by2 by3 bi:=by
 obtain ⟨hax0,hax1,hax2,hax3,hay0,hay1,hay2,hay3,hbx0,hbx1,hbx2,hbx3,hby0,hby1,hby2,hby3,oa,ob⟩:=h
 have eax0:U64 ax0=True:=eq_true hax0
 have eax1:U64 ax1=True:=eq_true hax1
 have eax2:U64 ax2=True:=eq_true hax2
 have eax3:U64 ax3=True:=eq_true hax3
 have eay0:U64 ay0=True:=eq_true hay0
 have eay1:U64 ay1=True:=eq_true hay1
 have eay2:U64 ay2=True:=eq_true hay2
 have eay3:U64 ay3=True:=eq_true hay3
 have ebx0:U64 bx0=True:=eq_true hbx0
 have ebx1:U64 bx1=True:=eq_true hbx1
 have ebx2:U64 bx2=True:=eq_true hbx2
 have ebx3:U64 bx3=True:=eq_true hbx3
 have eby0:U64 by0=True:=eq_true hby0
 have eby1:U64 by1=True:=eq_true hby1
 have eby2:U64 by2=True:=eq_true hby2
 have eby3:U64 by3=True:=eq_true hby3
 obtain ⟨lax0,lax1,lax2,lax3⟩:=limbs4' hax0 hax1 hax2 hax3
 obtain ⟨lay0,lay1,lay2,lay3⟩:=limbs4' hay0 hay1 hay2 hay3
 obtain ⟨lbx0,lbx1,lbx2,lbx3⟩:=limbs4' hbx0 hbx1 hbx2 hbx3
 obtain ⟨lby0,lby1,lby2,lby3⟩:=limbs4' hby0 hby1 hby2 hby3
 have bax:=(val4_lt hax0 hax1 hax2 hax3).1
 have bay:=(val4_lt hay0 hay1 hay2 hay3).1
 have bbx:=(val4_lt hbx0 hbx1 hbx2 hbx3).1
 have bby:=(val4_lt hby0 hby1 hby2 hby3).1
 unfold VCRPAdd
 simp only [forall_eq,ulP,ltI,laI,lsI,lslF,eax0,eax1,eax2,eax3,eay0,eay1,eay2,eay3,ebx0,ebx1,ebx2,ebx3,eby0,eby1,eby2,eby3,true_and]
 refine ⟨fun e=>?_,fun e=>⟨fun e2=>?_,fun e2=>?_⟩⟩
 ·subst e
  have q:C256.add (pP (val4 ax0 ax1 ax2 ax3) (val4 ay0 ay1 ay2 ay3) true) (pP (val4 bx0 bx1 bx2 bx3) (val4 by0 by1 by2 by3) bi)=pP (val4 bx0 bx1 bx2 bx3) (val4 by0 by1 by2 by3) bi:=rfl
  obtain ⟨c1,c2,c3⟩:=c_pP ob bbx bby
  rw [q,← c1,← c2,← c3,lbx0,lbx1,lbx2,lbx3,lby0,lby1,lby2,lby3]
  simp only [and_self]
 ·subst e2
  have q:C256.add (pP (val4 ax0 ax1 ax2 ax3) (val4 ay0 ay1 ay2 ay3) ai) (pP (val4 bx0 bx1 bx2 bx3) (val4 by0 by1 by2 by3) true)=pP (val4 ax0 ax1 ax2 ax3) (val4 ay0 ay1 ay2 ay3) ai:=C256.add_O _
  obtain ⟨c1,c2,c3⟩:=c_pP oa bax bay
  rw [q,← c1,← c2,← c3,lax0,lax1,lax2,lax3,lay0,lay1,lay2,lay3]
  simp only [e,and_self]
 ·subst e; subst e2
  have s1:=fun z=>add_none (X1:=val4 ax0 ax1 ax2 ax3) (Y1:=val4 ay0 ay1 ay2 ay3) (X2:=val4 bx0 bx1 bx2 bx3) (Y2:=val4 by0 by1 by2 by3) z
  have s2:=fun z=>add_some (X1:=val4 ax0 ax1 ax2 ax3) (Y1:=val4 ay0 ay1 ay2 ay3) (X2:=val4 bx0 bx1 bx2 bx3) (Y2:=val4 by0 by1 by2 by3) oa ob bax bbx bay bby z
  have l0:=lz4r
  refine ⟨fun z=>?_,fun z=>?_⟩
  ·rw [s1 (by simpa using z)]
   simp only [cX,cY,cB,l0.1,l0.2.1,l0.2.2.1,l0.2.2.2,and_self]
  ·obtain ⟨r1,r2,r3⟩:=s2 (by simpa using z)
   rw [r1,r2,r3]
   simp only [and_self]
theorem rPAdd_ok:SpecOk Tryz.prog 9 rPAddSpec:=by
 intro args k h
 unfold rPAddSpec at h
 split at h
 ·rename_i ax0 ax1 ax2 ax3 ay0 ay1 ay2 ay3 ai bx0 bx1 bx2 bx3 by0 by1 by2 by3 bi
  obtain ⟨hr,h⟩:=h
  exact ⟨_,h _ rfl _ rfl _ rfl,PureOk.of_tie (GC Tryz.prog rf5Spec) (fun w__=>gok w__ namesOk_ mixed_ rf5_ok) (fun _=>rfl) (fun _=>rfl) (args':=[.agg [.int .u64 (.sym ax0.val),.int .u64 (.sym ax1.val),.int .u64 (.sym ax2.val),.int .u64 (.sym ax3.val),.int .u64 (.sym ay0.val),.int .u64 (.sym ay1.val),.int .u64 (.sym ay2.val),.int .u64 (.sym ay3.val),.bool (.sym ai.val)],.agg [.int .u64 (.sym bx0.val),.int .u64 (.sym bx1.val),.int .u64 (.sym bx2.val),.int .u64 (.sym bx3.val),.int .u64 (.sym by0.val),.int .u64 (.sym by1.val),.int .u64 (.sym by2.val),.int .u64 (.sym by3.val),.bool (.sym bi.val)]]) ⟨⟨⟨rfl,rfl⟩,⟨rfl,rfl⟩,⟨rfl,rfl⟩,⟨rfl,rfl⟩,⟨rfl,rfl⟩,⟨rfl,rfl⟩,⟨rfl,rfl⟩,⟨rfl,rfl⟩,rfl,trivial⟩,⟨⟨rfl,rfl⟩,⟨rfl,rfl⟩,⟨rfl,rfl⟩,⟨rfl,rfl⟩,⟨rfl,rfl⟩,⟨rfl,rfl⟩,⟨rfl,rfl⟩,⟨rfl,rfl⟩,rfl,trivial⟩,trivial⟩ 40 (fun w__=>VCRPAdd ax0.val ax1.val ax2.val ax3.val ay0.val ay1.val ay2.val ay3.val ai.val bx0.val bx1.val bx2.val bx3.val by0.val by1.val by2.val by3.val bi.val) (fun w__=>tieRPAdd w__ ax0.val ax1.val ax2.val ax3.val ay0.val ay1.val ay2.val ay3.val ai.val bx0.val bx1.val bx2.val bx3.val by0.val by1.val by2.val by3.val bi.val) (fun w__=>pureRPAdd ax0.val ax1.val ax2.val ax3.val ay0.val ay1.val ay2.val ay3.val ai.val bx0.val bx1.val bx2.val bx3.val by0.val by1.val by2.val by3.val bi.val hr)⟩
 ·exact h.elim

end Go.Proofs.YtaaobpalpcdlbaaGreat.Bits
