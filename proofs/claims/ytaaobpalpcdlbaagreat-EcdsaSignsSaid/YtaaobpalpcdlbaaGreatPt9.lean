import Derived.Test.YtaaobpalpcdlbaaGreatSxR
import Derived.Test.YtaaobpalpcdlbaaGreatProg
import Derived.Test.YtaaobpalpcdlbaaGreatPt7
import Derived.Test.YtaaobpalpcdlbaaGreatPt8
import Derived.Test.YtaaobpalpcdlbaaGreatRef3
import Derived.KernelRfl
namespace Go.Proofs.YtaaobpalpcdlbaaGreat.Bits
open Go Go.Sx Go.RowKit Go.EC
set_option linter.unusedVariables false
set_option maxRecDepth 100000
def cuF (X:Int):Int:=aI (tI X (sI (tI X X) 3)) 41058363725152142129326129780047268409114441015993725554835256314039467401291
def onP (X Y:Int) (i:Bool):Bool:=if i then decide (X=0/\Y=0) else decide ((X<P2/\Y<P2)/\tI Y Y=cuF X)
def pt9Spec:List (FuncId×CSpec):=[(72,pTimesSpec),(70,pPlusSpec),(71,pLessSpec),(63,cmpSpec),(68,parseSpec),(23,rCmpSpec)]
theorem pt9_ok:SpecsOk Tryz.prog pt9Spec:=⟨pTimes_ok,pPlus_ok,pLess_ok,cmp_ok,parse_ok,rCmp_ok,trivial⟩
def pt9rSpec:List (FuncId×CSpec):=[(67,r2MulSpec),(62,r2AddSpec),(65,r2SubSpec)]
theorem pt9r_ok:SpecsOk Tryz.prog pt9rSpec:=⟨r2Mul_ok,r2Add_ok,r2Sub_ok,trivial⟩
def rMul4Spec:CSpec
 | [.agg [.int .u64 a0,.int .u64 a1,.int .u64 a2,.int .u64 a3],.agg [.int .u64 b0,.int .u64 b1,.int .u64 b2,.int .u64 b3]],k=>((U64 a0.val)/\(U64 a1.val)/\(U64 a2.val)/\(U64 a3.val)/\(U64 b0.val)/\(U64 b1.val)/\(U64 b2.val)/\(U64 b3.val))/\(∀ r0:Int,r0=(tI (val4 a0.val a1.val a2.val a3.val) (val4 b0.val b1.val b2.val b3.val))->k (.agg [.int .u64 (.sym (limb r0 0)),.int .u64 (.sym (limb r0 1)),.int .u64 (.sym (limb r0 2)),.int .u64 (.sym (limb r0 3))]))
 | _,_=>False
def VCRMul4 (a0:Int) (a1:Int) (a2:Int) (a3:Int) (b0:Int) (b1:Int) (b2:Int) (b3:Int):Prop :=
 (U64 a0/\U64 a1/\U64 a2/\U64 a3/\U64 b0/\U64 b1/\U64 b2/\U64 b3/\U64 18446744073709551615/\U64 4294967295/\U64 0/\U64 18446744069414584321)/\∀ v1,v1=modF (val4 a0 a1 a2 a3*val4 b0 b1 b2 b3) (115792089210356248762697446949407573530086143415290314195533631308867097853951:Int)->(IntKind.u64=IntKind.u64/\limb v1 0=limb (tI (val4 a0 a1 a2 a3) (val4 b0 b1 b2 b3)) 0)/\(IntKind.u64=IntKind.u64/\limb v1 1=limb (tI (val4 a0 a1 a2 a3) (val4 b0 b1 b2 b3)) 1)/\(IntKind.u64=IntKind.u64/\limb v1 2=limb (tI (val4 a0 a1 a2 a3) (val4 b0 b1 b2 b3)) 2)/\(IntKind.u64=IntKind.u64/\limb v1 3=limb (tI (val4 a0 a1 a2 a3) (val4 b0 b1 b2 b3)) 3)/\True
theorem tieRMul4 (w0:World) (a0:Int) (a1:Int) (a2:Int) (a3:Int) (b0:Int) (b1:Int) (b2:Int) (b3:Int):VCRMul4 a0 a1 a2 a3 b0 b1 b2 b3=((recN (GC Tryz.prog pt9rSpec w0) 40).call 26 [.agg [.int .u64 (.sym a0),.int .u64 (.sym a1),.int .u64 (.sym a2),.int .u64 (.sym a3)],.agg [.int .u64 (.sym b0),.int .u64 (.sym b1),.int .u64 (.sym b2),.int .u64 (.sym b3)]] [] (fun r__ _=>eqV r__ (.agg [.int .u64 (.sym (limb (tI (val4 a0 a1 a2 a3) (val4 b0 b1 b2 b3)) 0)),.int .u64 (.sym (limb (tI (val4 a0 a1 a2 a3) (val4 b0 b1 b2 b3)) 1)),.int .u64 (.sym (limb (tI (val4 a0 a1 a2 a3) (val4 b0 b1 b2 b3)) 2)),.int .u64 (.sym (limb (tI (val4 a0 a1 a2 a3) (val4 b0 b1 b2 b3)) 3))]))):=by kernel_rfl
theorem pureRMul4 (a0 a1 a2 a3 b0 b1 b2 b3:Int) (h:U64 a0/\U64 a1/\U64 a2/\U64 a3/\U64 b0/\U64 b1/\U64 b2/\U64 b3):VCRMul4 a0 a1 a2 a3 b0 b1 b2 b3:=by
 obtain ⟨ha0,ha1,ha2,ha3,hb0,hb1,hb2,hb3⟩:=h
 obtain ⟨q0,q1,q2,q3⟩:=m2
 exact ⟨⟨ha0,ha1,ha2,ha3,hb0,hb1,hb2,hb3,q0,q1,q2,q3⟩,fun v1 h1=>limb_eq (by rw [h1,modP2]; rfl)⟩
theorem rMul4_ok:SpecOk Tryz.prog 26 rMul4Spec:=by
 intro args k h
 unfold rMul4Spec at h
 split at h
 ·rename_i a0 a1 a2 a3 b0 b1 b2 b3
  obtain ⟨hr,h⟩:=h
  exact ⟨_,h _ rfl,PureOk.of_tie (GC Tryz.prog pt9rSpec) (fun w__=>gok w__ namesOk_ mixed_ pt9r_ok) (fun _=>rfl) (fun _=>rfl) (args':=[.agg [.int .u64 (.sym a0.val),.int .u64 (.sym a1.val),.int .u64 (.sym a2.val),.int .u64 (.sym a3.val)],.agg [.int .u64 (.sym b0.val),.int .u64 (.sym b1.val),.int .u64 (.sym b2.val),.int .u64 (.sym b3.val)]]) ⟨⟨⟨rfl,rfl⟩,⟨rfl,rfl⟩,⟨rfl,rfl⟩,⟨rfl,rfl⟩,trivial⟩,⟨⟨rfl,rfl⟩,⟨rfl,rfl⟩,⟨rfl,rfl⟩,⟨rfl,rfl⟩,trivial⟩,trivial⟩ 40 (fun w__=>VCRMul4 a0.val a1.val a2.val a3.val b0.val b1.val b2.val b3.val) (fun w__=>tieRMul4 w__ a0.val a1.val a2.val a3.val b0.val b1.val b2.val b3.val) (fun w__=>pureRMul4 a0.val a1.val a2.val a3.val b0.val b1.val b2.val b3.val hr)⟩
 ·exact h.elim

def rAdd4Spec:CSpec
 | [.agg [.int .u64 a0,.int .u64 a1,.int .u64 a2,.int .u64 a3],.agg [.int .u64 b0,.int .u64 b1,.int .u64 b2,.int .u64 b3]],k=>((U64 a0.val)/\(U64 a1.val)/\(U64 a2.val)/\(U64 a3.val)/\(U64 b0.val)/\(U64 b1.val)/\(U64 b2.val)/\(U64 b3.val))/\(∀ r0:Int,r0=(aI (val4 a0.val a1.val a2.val a3.val) (val4 b0.val b1.val b2.val b3.val))->k (.agg [.int .u64 (.sym (limb r0 0)),.int .u64 (.sym (limb r0 1)),.int .u64 (.sym (limb r0 2)),.int .u64 (.sym (limb r0 3))]))
 | _,_=>False
def VCRAdd4 (a0:Int) (a1:Int) (a2:Int) (a3:Int) (b0:Int) (b1:Int) (b2:Int) (b3:Int):Prop :=
 (U64 a0/\U64 a1/\U64 a2/\U64 a3/\U64 b0/\U64 b1/\U64 b2/\U64 b3/\U64 18446744073709551615/\U64 4294967295/\U64 0/\U64 18446744069414584321)/\∀ v1,v1=modF (val4 a0 a1 a2 a3+val4 b0 b1 b2 b3) (115792089210356248762697446949407573530086143415290314195533631308867097853951:Int)->(IntKind.u64=IntKind.u64/\limb v1 0=limb (aI (val4 a0 a1 a2 a3) (val4 b0 b1 b2 b3)) 0)/\(IntKind.u64=IntKind.u64/\limb v1 1=limb (aI (val4 a0 a1 a2 a3) (val4 b0 b1 b2 b3)) 1)/\(IntKind.u64=IntKind.u64/\limb v1 2=limb (aI (val4 a0 a1 a2 a3) (val4 b0 b1 b2 b3)) 2)/\(IntKind.u64=IntKind.u64/\limb v1 3=limb (aI (val4 a0 a1 a2 a3) (val4 b0 b1 b2 b3)) 3)/\True
theorem tieRAdd4 (w0:World) (a0:Int) (a1:Int) (a2:Int) (a3:Int) (b0:Int) (b1:Int) (b2:Int) (b3:Int):VCRAdd4 a0 a1 a2 a3 b0 b1 b2 b3=((recN (GC Tryz.prog pt9rSpec w0) 40).call 25 [.agg [.int .u64 (.sym a0),.int .u64 (.sym a1),.int .u64 (.sym a2),.int .u64 (.sym a3)],.agg [.int .u64 (.sym b0),.int .u64 (.sym b1),.int .u64 (.sym b2),.int .u64 (.sym b3)]] [] (fun r__ _=>eqV r__ (.agg [.int .u64 (.sym (limb (aI (val4 a0 a1 a2 a3) (val4 b0 b1 b2 b3)) 0)),.int .u64 (.sym (limb (aI (val4 a0 a1 a2 a3) (val4 b0 b1 b2 b3)) 1)),.int .u64 (.sym (limb (aI (val4 a0 a1 a2 a3) (val4 b0 b1 b2 b3)) 2)),.int .u64 (.sym (limb (aI (val4 a0 a1 a2 a3) (val4 b0 b1 b2 b3)) 3))]))):=by kernel_rfl
theorem pureRAdd4 (a0 a1 a2 a3 b0 b1 b2 b3:Int) (h:U64 a0/\U64 a1/\U64 a2/\U64 a3/\U64 b0/\U64 b1/\U64 b2/\U64 b3):VCRAdd4 a0 a1 a2 a3 b0 b1 b2 b3:=by
 obtain ⟨ha0,ha1,ha2,ha3,hb0,hb1,hb2,hb3⟩:=h
 obtain ⟨q0,q1,q2,q3⟩:=m2
 exact ⟨⟨ha0,ha1,ha2,ha3,hb0,hb1,hb2,hb3,q0,q1,q2,q3⟩,fun v1 h1=>limb_eq (by rw [h1,modP2]; rfl)⟩
theorem rAdd4_ok:SpecOk Tryz.prog 25 rAdd4Spec:=by
 intro args k h
 unfold rAdd4Spec at h
 split at h
 ·rename_i a0 a1 a2 a3 b0 b1 b2 b3
  obtain ⟨hr,h⟩:=h
  exact ⟨_,h _ rfl,PureOk.of_tie (GC Tryz.prog pt9rSpec) (fun w__=>gok w__ namesOk_ mixed_ pt9r_ok) (fun _=>rfl) (fun _=>rfl) (args':=[.agg [.int .u64 (.sym a0.val),.int .u64 (.sym a1.val),.int .u64 (.sym a2.val),.int .u64 (.sym a3.val)],.agg [.int .u64 (.sym b0.val),.int .u64 (.sym b1.val),.int .u64 (.sym b2.val),.int .u64 (.sym b3.val)]]) ⟨⟨⟨rfl,rfl⟩,⟨rfl,rfl⟩,⟨rfl,rfl⟩,⟨rfl,rfl⟩,trivial⟩,⟨⟨rfl,rfl⟩,⟨rfl,rfl⟩,⟨rfl,rfl⟩,⟨rfl,rfl⟩,trivial⟩,trivial⟩ 40 (fun w__=>VCRAdd4 a0.val a1.val a2.val a3.val b0.val b1.val b2.val b3.val) (fun w__=>tieRAdd4 w__ a0.val a1.val a2.val a3.val b0.val b1.val b2.val b3.val) (fun w__=>pureRAdd4 a0.val a1.val a2.val a3.val b0.val b1.val b2.val b3.val hr)⟩
 ·exact h.elim

def rSub4Spec:CSpec
 | [.agg [.int .u64 a0,.int .u64 a1,.int .u64 a2,.int .u64 a3],.agg [.int .u64 b0,.int .u64 b1,.int .u64 b2,.int .u64 b3]],k=>((U64 a0.val)/\(U64 a1.val)/\(U64 a2.val)/\(U64 a3.val)/\(U64 b0.val)/\(U64 b1.val)/\(U64 b2.val)/\(U64 b3.val))/\(∀ r0:Int,r0=(sI (val4 a0.val a1.val a2.val a3.val) (val4 b0.val b1.val b2.val b3.val))->k (.agg [.int .u64 (.sym (limb r0 0)),.int .u64 (.sym (limb r0 1)),.int .u64 (.sym (limb r0 2)),.int .u64 (.sym (limb r0 3))]))
 | _,_=>False
def VCRSub4 (a0:Int) (a1:Int) (a2:Int) (a3:Int) (b0:Int) (b1:Int) (b2:Int) (b3:Int):Prop :=
 (U64 a0/\U64 a1/\U64 a2/\U64 a3/\U64 b0/\U64 b1/\U64 b2/\U64 b3/\U64 18446744073709551615/\U64 4294967295/\U64 0/\U64 18446744069414584321)/\∀ v1,v1=modF (val4 a0 a1 a2 a3-val4 b0 b1 b2 b3) (115792089210356248762697446949407573530086143415290314195533631308867097853951:Int)->(IntKind.u64=IntKind.u64/\limb v1 0=limb (sI (val4 a0 a1 a2 a3) (val4 b0 b1 b2 b3)) 0)/\(IntKind.u64=IntKind.u64/\limb v1 1=limb (sI (val4 a0 a1 a2 a3) (val4 b0 b1 b2 b3)) 1)/\(IntKind.u64=IntKind.u64/\limb v1 2=limb (sI (val4 a0 a1 a2 a3) (val4 b0 b1 b2 b3)) 2)/\(IntKind.u64=IntKind.u64/\limb v1 3=limb (sI (val4 a0 a1 a2 a3) (val4 b0 b1 b2 b3)) 3)/\True
theorem tieRSub4 (w0:World) (a0:Int) (a1:Int) (a2:Int) (a3:Int) (b0:Int) (b1:Int) (b2:Int) (b3:Int):VCRSub4 a0 a1 a2 a3 b0 b1 b2 b3=((recN (GC Tryz.prog pt9rSpec w0) 40).call 27 [.agg [.int .u64 (.sym a0),.int .u64 (.sym a1),.int .u64 (.sym a2),.int .u64 (.sym a3)],.agg [.int .u64 (.sym b0),.int .u64 (.sym b1),.int .u64 (.sym b2),.int .u64 (.sym b3)]] [] (fun r__ _=>eqV r__ (.agg [.int .u64 (.sym (limb (sI (val4 a0 a1 a2 a3) (val4 b0 b1 b2 b3)) 0)),.int .u64 (.sym (limb (sI (val4 a0 a1 a2 a3) (val4 b0 b1 b2 b3)) 1)),.int .u64 (.sym (limb (sI (val4 a0 a1 a2 a3) (val4 b0 b1 b2 b3)) 2)),.int .u64 (.sym (limb (sI (val4 a0 a1 a2 a3) (val4 b0 b1 b2 b3)) 3))]))):=by kernel_rfl
theorem pureRSub4 (a0 a1 a2 a3 b0 b1 b2 b3:Int) (h:U64 a0/\U64 a1/\U64 a2/\U64 a3/\U64 b0/\U64 b1/\U64 b2/\U64 b3):VCRSub4 a0 a1 a2 a3 b0 b1 b2 b3:=by
 obtain ⟨ha0,ha1,ha2,ha3,hb0,hb1,hb2,hb3⟩:=h
 obtain ⟨q0,q1,q2,q3⟩:=m2
 exact ⟨⟨ha0,ha1,ha2,ha3,hb0,hb1,hb2,hb3,q0,q1,q2,q3⟩,fun v1 h1=>limb_eq (by rw [h1,modP2]; rfl)⟩
theorem rSub4_ok:SpecOk Tryz.prog 27 rSub4Spec:=by
 intro args k h
 unfold rSub4Spec at h
 split at h
 ·rename_i a0 a1 a2 a3 b0 b1 b2 b3
  obtain ⟨hr,h⟩:=h
  exact ⟨_,h _ rfl,PureOk.of_tie (GC Tryz.prog pt9rSpec) (fun w__=>gok w__ namesOk_ mixed_ pt9r_ok) (fun _=>rfl) (fun _=>rfl) (args':=[.agg [.int .u64 (.sym a0.val),.int .u64 (.sym a1.val),.int .u64 (.sym a2.val),.int .u64 (.sym a3.val)],.agg [.int .u64 (.sym b0.val),.int .u64 (.sym b1.val),.int .u64 (.sym b2.val),.int .u64 (.sym b3.val)]]) ⟨⟨⟨rfl,rfl⟩,⟨rfl,rfl⟩,⟨rfl,rfl⟩,⟨rfl,rfl⟩,trivial⟩,⟨⟨rfl,rfl⟩,⟨rfl,rfl⟩,⟨rfl,rfl⟩,⟨rfl,rfl⟩,trivial⟩,trivial⟩ 40 (fun w__=>VCRSub4 a0.val a1.val a2.val a3.val b0.val b1.val b2.val b3.val) (fun w__=>tieRSub4 w__ a0.val a1.val a2.val a3.val b0.val b1.val b2.val b3.val) (fun w__=>pureRSub4 a0.val a1.val a2.val a3.val b0.val b1.val b2.val b3.val hr)⟩
 ·exact h.elim

theorem cmp_neg (x y:Int):decide (cmpF x y<0)=decide (x<y):=by
 unfold cmpF
 by_cases c:x<y
 ·simp [c]
 ·by_cases d:x=y
  ·simp [d]
  ·simp [c,d]
theorem deq {a b:Int} (ha:inP a) (hb:inP b):(limb a 0==limb b 0&&(limb a 1==limb b 1&&(limb a 2==limb b 2&&(limb a 3==limb b 3&&true))))=decide (a=b):=by
 have a2:a<115792089210356248762697446949407573530086143415290314195533631308867097853951:=ha.2
 rw [eq4l ha.1 (by omega) (limb_in ..) (limb_in ..) (limb_in ..) (limb_in ..),lvP hb]
theorem dta (a b c d:Int):(limb (tI a b) 0==limb (aI c d) 0&&(limb (tI a b) 1==limb (aI c d) 1&&(limb (tI a b) 2==limb (aI c d) 2&&(limb (tI a b) 3==limb (aI c d) 3&&true))))=decide (tI a b=aI c d):=deq (in_mod _) (in_mod _)
theorem cu_same (X:Int):aI (sI (tI X (tI X X)) (tI 3 X)) 41058363725152142129326129780047268409114441015993725554835256314039467401291=cuF X:=by
 refine toF_inj (p:=p256) (in_mod _) (in_mod _) ?_
 show f2 (aI (sI (tI X (tI X X)) (tI 3 X)) 41058363725152142129326129780047268409114441015993725554835256314039467401291)=f2 (cuF X)
 unfold cuF
 rw [f2_aI,f2_sI,f2_tI,f2_tI,f2_tI,f2_aI,f2_tI,f2_sI,f2_tI]
 generalize f2 X=x
 generalize f2 3=c
 generalize f2 41058363725152142129326129780047268409114441015993725554835256314039467401291=b
 grind -lia
theorem onP_inf (X Y:Int):onP X Y true=(decide (X=0)&&decide (Y=0)):=by unfold onP; simp
theorem onP_fin (X Y:Int):onP X Y false=(decide (X<P2)&&(decide (Y<P2)&&decide (tI Y Y=cuF X))):=by unfold onP; simp [Bool.and_assoc]
def pBaseSpec:CSpec
 | [],k=>(True)/\(∀ r0:Int,r0=(48439561293906451759052585252797914202762949526041747995844080717082404635286)->∀ r1:Int,r1=(36134250956749795798585127919587881956611106672985015071877198253568414405109)->k (.agg [.int .u64 (.sym (limb r0 0)),.int .u64 (.sym (limb r0 1)),.int .u64 (.sym (limb r0 2)),.int .u64 (.sym (limb r0 3)),.int .u64 (.sym (limb r1 0)),.int .u64 (.sym (limb r1 1)),.int .u64 (.sym (limb r1 2)),.int .u64 (.sym (limb r1 3)),.bool (.lit false)]))
 | _,_=>False
def VCPBase:Prop :=
 (bytesL [54,98,49,55,100,49,102,50,101,49,50,99,52,50,52,55,102,56,98,99,101,54,101,53,54,51,97,52,52,48,102,50,55,55,48,51,55,100,56,49,50,100,101,98,51,51,97,48,102,52,97,49,51,57,52,53,100,56,57,56,99,50,57,54]=bytesL [54,98,49,55,100,49,102,50,101,49,50,99,52,50,52,55,102,56,98,99,101,54,101,53,54,51,97,52,52,48,102,50,55,55,48,51,55,100,56,49,50,100,101,98,51,51,97,48,102,52,97,49,51,57,52,53,100,56,57,56,99,50,57,54]\/bytesL [54,98,49,55,100,49,102,50,101,49,50,99,52,50,52,55,102,56,98,99,101,54,101,53,54,51,97,52,52,48,102,50,55,55,48,51,55,100,56,49,50,100,101,98,51,51,97,48,102,52,97,49,51,57,52,53,100,56,57,56,99,50,57,54]=bytesL [52,102,101,51,52,50,101,50,102,101,49,97,55,102,57,98,56,101,101,55,101,98,52,97,55,99,48,102,57,101,49,54,50,98,99,101,51,51,53,55,54,98,51,49,53,101,99,101,99,98,98,54,52,48,54,56,51,55,98,102,53,49,102,53]\/bytesL [54,98,49,55,100,49,102,50,101,49,50,99,52,50,52,55,102,56,98,99,101,54,101,53,54,51,97,52,52,48,102,50,55,55,48,51,55,100,56,49,50,100,101,98,51,51,97,48,102,52,97,49,51,57,52,53,100,56,57,56,99,50,57,54]=bytesL [53,97,99,54,51,53,100,56,97,97,51,97,57,51,101,55,98,51,101,98,98,100,53,53,55,54,57,56,56,54,98,99,54,53,49,100,48,54,98,48,99,99,53,51,98,48,102,54,51,98,99,101,51,99,51,101,50,55,100,50,54,48,52,98])/\∀ (v1:Int),v1=(48439561293906451759052585252797914202762949526041747995844080717082404635286:Int)->(bytesL [52,102,101,51,52,50,101,50,102,101,49,97,55,102,57,98,56,101,101,55,101,98,52,97,55,99,48,102,57,101,49,54,50,98,99,101,51,51,53,55,54,98,51,49,53,101,99,101,99,98,98,54,52,48,54,56,51,55,98,102,53,49,102,53]=bytesL [54,98,49,55,100,49,102,50,101,49,50,99,52,50,52,55,102,56,98,99,101,54,101,53,54,51,97,52,52,48,102,50,55,55,48,51,55,100,56,49,50,100,101,98,51,51,97,48,102,52,97,49,51,57,52,53,100,56,57,56,99,50,57,54]\/bytesL [52,102,101,51,52,50,101,50,102,101,49,97,55,102,57,98,56,101,101,55,101,98,52,97,55,99,48,102,57,101,49,54,50,98,99,101,51,51,53,55,54,98,51,49,53,101,99,101,99,98,98,54,52,48,54,56,51,55,98,102,53,49,102,53]=bytesL [52,102,101,51,52,50,101,50,102,101,49,97,55,102,57,98,56,101,101,55,101,98,52,97,55,99,48,102,57,101,49,54,50,98,99,101,51,51,53,55,54,98,51,49,53,101,99,101,99,98,98,54,52,48,54,56,51,55,98,102,53,49,102,53]\/bytesL [52,102,101,51,52,50,101,50,102,101,49,97,55,102,57,98,56,101,101,55,101,98,52,97,55,99,48,102,57,101,49,54,50,98,99,101,51,51,53,55,54,98,51,49,53,101,99,101,99,98,98,54,52,48,54,56,51,55,98,102,53,49,102,53]=bytesL [53,97,99,54,51,53,100,56,97,97,51,97,57,51,101,55,98,51,101,98,98,100,53,53,55,54,57,56,56,54,98,99,54,53,49,100,48,54,98,48,99,99,53,51,98,48,102,54,51,98,99,101,51,99,51,101,50,55,100,50,54,48,52,98])/\∀ (v2:Int),v2=(36134250956749795798585127919587881956611106672985015071877198253568414405109:Int)->(IntKind.u64=IntKind.u64/\limb v1 0=(17627433388654248598:Int))/\(IntKind.u64=IntKind.u64/\limb v1 1=(8575836109218198432:Int))/\(IntKind.u64=IntKind.u64/\limb v1 2=(17923454489921339634:Int))/\(IntKind.u64=IntKind.u64/\limb v1 3=(7716867327612699207:Int))/\(IntKind.u64=IntKind.u64/\limb v2 0=(14678990851816772085:Int))/\(IntKind.u64=IntKind.u64/\limb v2 1=(3156516839386865358:Int))/\(IntKind.u64=IntKind.u64/\limb v2 2=(10297457778147434006:Int))/\(IntKind.u64=IntKind.u64/\limb v2 3=(5756518291402817435:Int))/\false=false/\True
theorem tiePBase (w0:World)  : VCPBase  = ((recN (GC Tryz.prog pt9Spec w0) 40).call 29 [] [] (fun r__ _=>eqV r__ (.agg [.int .u64 (.sym (limb (48439561293906451759052585252797914202762949526041747995844080717082404635286) 0)),.int .u64 (.sym (limb (48439561293906451759052585252797914202762949526041747995844080717082404635286) 1)),.int .u64 (.sym (limb (48439561293906451759052585252797914202762949526041747995844080717082404635286) 2)),.int .u64 (.sym (limb (48439561293906451759052585252797914202762949526041747995844080717082404635286) 3)),.int .u64 (.sym (limb (36134250956749795798585127919587881956611106672985015071877198253568414405109) 0)),.int .u64 (.sym (limb (36134250956749795798585127919587881956611106672985015071877198253568414405109) 1)),.int .u64 (.sym (limb (36134250956749795798585127919587881956611106672985015071877198253568414405109) 2)),.int .u64 (.sym (limb (36134250956749795798585127919587881956611106672985015071877198253568414405109) 3)),.bool (.lit false)]))):=by kernel_rfl
theorem purePBase (h:True):VCPBase:=by
 refine ⟨Or.inl rfl,fun v1 h1=>⟨Or.inr (Or.inl rfl),fun v2 h2=>?_⟩⟩
 subst h1; subst h2
 exact ⟨⟨rfl,rfl⟩,⟨rfl,rfl⟩,⟨rfl,rfl⟩,⟨rfl,rfl⟩,⟨rfl,rfl⟩,⟨rfl,rfl⟩,⟨rfl,rfl⟩,⟨rfl,rfl⟩,rfl,trivial⟩
theorem pBase_ok:SpecOk Tryz.prog 29 pBaseSpec:=by
 intro args k h
 unfold pBaseSpec at h
 split at h
 ·obtain ⟨hr,h⟩:=h
  exact ⟨_,h _ rfl _ rfl,PureOk.of_tie (GC Tryz.prog pt9Spec) (fun w__=>gok w__ namesOk_ mixed_ pt9_ok) (fun _=>rfl) (fun _=>rfl) (args':=[]) trivial 40 (fun w__=>VCPBase ) (fun w__=>tiePBase w__ ) (fun w__=>purePBase  hr)⟩
 ·exact h.elim

def pOnSpec:CSpec
 | [.agg [.int .u64 ax0,.int .u64 ax1,.int .u64 ax2,.int .u64 ax3,.int .u64 ay0,.int .u64 ay1,.int .u64 ay2,.int .u64 ay3,.bool ai]],k=>((U64 ax0.val)/\(U64 ax1.val)/\(U64 ax2.val)/\(U64 ax3.val)/\(U64 ay0.val)/\(U64 ay1.val)/\(U64 ay2.val)/\(U64 ay3.val))/\(∀ r0:Bool,r0=(onP (val4 ax0.val ax1.val ax2.val ax3.val) (val4 ay0.val ay1.val ay2.val ay3.val) ai.val)->k (.bool (.sym r0)))
 | _,_=>False
def VCPOn (ax0:Int) (ax1:Int) (ax2:Int) (ax3:Int) (ay0:Int) (ay1:Int) (ay2:Int) (ay3:Int) (ai:Bool):Prop :=
 (ai=true->∀ v1,v1=(ax0==(0:Int)&&(ax1==(0:Int)&&(ax2==(0:Int)&&(ax3==(0:Int)&&true)))&&(ay0==(0:Int)&&(ay1==(0:Int)&&(ay2==(0:Int)&&(ay3==(0:Int)&&true)))&&(ai==true&&true)))->v1=onP (val4 ax0 ax1 ax2 ax3) (val4 ay0 ay1 ay2 ay3) ai)/\(ai=false->(bytesL [53,97,99,54,51,53,100,56,97,97,51,97,57,51,101,55,98,51,101,98,98,100,53,53,55,54,57,56,56,54,98,99,54,53,49,100,48,54,98,48,99,99,53,51,98,48,102,54,51,98,99,101,51,99,51,101,50,55,100,50,54,48,52,98]=bytesL [54,98,49,55,100,49,102,50,101,49,50,99,52,50,52,55,102,56,98,99,101,54,101,53,54,51,97,52,52,48,102,50,55,55,48,51,55,100,56,49,50,100,101,98,51,51,97,48,102,52,97,49,51,57,52,53,100,56,57,56,99,50,57,54]\/bytesL [53,97,99,54,51,53,100,56,97,97,51,97,57,51,101,55,98,51,101,98,98,100,53,53,55,54,57,56,56,54,98,99,54,53,49,100,48,54,98,48,99,99,53,51,98,48,102,54,51,98,99,101,51,99,51,101,50,55,100,50,54,48,52,98]=bytesL [52,102,101,51,52,50,101,50,102,101,49,97,55,102,57,98,56,101,101,55,101,98,52,97,55,99,48,102,57,101,49,54,50,98,99,101,51,51,53,55,54,98,51,49,53,101,99,101,99,98,98,54,52,48,54,56,51,55,98,102,53,49,102,53]\/bytesL [53,97,99,54,51,53,100,56,97,97,51,97,57,51,101,55,98,51,101,98,98,100,53,53,55,54,57,56,56,54,98,99,54,53,49,100,48,54,98,48,99,99,53,51,98,48,102,54,51,98,99,101,51,99,51,101,50,55,100,50,54,48,52,98]=bytesL [53,97,99,54,51,53,100,56,97,97,51,97,57,51,101,55,98,51,101,98,98,100,53,53,55,54,57,56,56,54,98,99,54,53,49,100,48,54,98,48,99,99,53,51,98,48,102,54,51,98,99,101,51,99,51,101,50,55,100,50,54,48,52,98])/\∀ (v2:Int),v2=(41058363725152142129326129780047268409114441015993725554835256314039467401291:Int)->(U64 ax0/\U64 ax1/\U64 ax2/\U64 ax3/\U64 18446744073709551615/\U64 4294967295/\U64 0/\U64 18446744069414584321)/\∀ v3,v3=cmpF (val4 ax0 ax1 ax2 ax3) (115792089210356248762697446949407573530086143415290314195533631308867097853951:Int)->∀ v4,v4=decide (v3<(0:Int))->(v4=true->(U64 ay0/\U64 ay1/\U64 ay2/\U64 ay3/\U64 18446744073709551615/\U64 4294967295/\U64 0/\U64 18446744069414584321)/\∀ v5,v5=cmpF (val4 ay0 ay1 ay2 ay3) (115792089210356248762697446949407573530086143415290314195533631308867097853951:Int)->∀ v6,v6=decide (v5<(0:Int))->(U64 ax0/\U64 ax1/\U64 ax2/\U64 ax3/\U64 ax0/\U64 ax1/\U64 ax2/\U64 ax3)/\∀ v7,v7=tI (val4 ax0 ax1 ax2 ax3) (val4 ax0 ax1 ax2 ax3)->(U64 ax0/\U64 ax1/\U64 ax2/\U64 ax3/\U64 (limb v7 0)/\U64 (limb v7 1)/\U64 (limb v7 2)/\U64 (limb v7 3))/\∀ v8,v8=tI (val4 ax0 ax1 ax2 ax3) (val4 (limb v7 0) (limb v7 1) (limb v7 2) (limb v7 3))->(U64 3/\U64 0/\U64 0/\U64 0/\U64 ax0/\U64 ax1/\U64 ax2/\U64 ax3)/\∀ v9,v9=tI (3:Int) (val4 ax0 ax1 ax2 ax3)->(U64 (limb v8 0)/\U64 (limb v8 1)/\U64 (limb v8 2)/\U64 (limb v8 3)/\U64 (limb v9 0)/\U64 (limb v9 1)/\U64 (limb v9 2)/\U64 (limb v9 3))/\∀ v10,v10=sI (val4 (limb v8 0) (limb v8 1) (limb v8 2) (limb v8 3)) (val4 (limb v9 0) (limb v9 1) (limb v9 2) (limb v9 3))->(U64 (limb v10 0)/\U64 (limb v10 1)/\U64 (limb v10 2)/\U64 (limb v10 3)/\U64 (limb v2 0)/\U64 (limb v2 1)/\U64 (limb v2 2)/\U64 (limb v2 3))/\∀ v11,v11=aI (val4 (limb v10 0) (limb v10 1) (limb v10 2) (limb v10 3)) (val4 (limb v2 0) (limb v2 1) (limb v2 2) (limb v2 3))->(v6=true->(U64 ay0/\U64 ay1/\U64 ay2/\U64 ay3/\U64 ay0/\U64 ay1/\U64 ay2/\U64 ay3)/\∀ v12,v12=tI (val4 ay0 ay1 ay2 ay3) (val4 ay0 ay1 ay2 ay3)->∀ v13,v13=(limb v12 0==limb v11 0&&(limb v12 1==limb v11 1&&(limb v12 2==limb v11 2&&(limb v12 3==limb v11 3&&true))))->v13=onP (val4 ax0 ax1 ax2 ax3) (val4 ay0 ay1 ay2 ay3) ai)/\(v6=false->false=onP (val4 ax0 ax1 ax2 ax3) (val4 ay0 ay1 ay2 ay3) ai))/\(v4=false->(U64 ax0/\U64 ax1/\U64 ax2/\U64 ax3/\U64 ax0/\U64 ax1/\U64 ax2/\U64 ax3)/\∀ v14,v14=tI (val4 ax0 ax1 ax2 ax3) (val4 ax0 ax1 ax2 ax3)->(U64 ax0/\U64 ax1/\U64 ax2/\U64 ax3/\U64 (limb v14 0)/\U64 (limb v14 1)/\U64 (limb v14 2)/\U64 (limb v14 3))/\∀ v15,v15=tI (val4 ax0 ax1 ax2 ax3) (val4 (limb v14 0) (limb v14 1) (limb v14 2) (limb v14 3))->(U64 3/\U64 0/\U64 0/\U64 0/\U64 ax0/\U64 ax1/\U64 ax2/\U64 ax3)/\∀ v16,v16=tI (3:Int) (val4 ax0 ax1 ax2 ax3)->(U64 (limb v15 0)/\U64 (limb v15 1)/\U64 (limb v15 2)/\U64 (limb v15 3)/\U64 (limb v16 0)/\U64 (limb v16 1)/\U64 (limb v16 2)/\U64 (limb v16 3))/\∀ v17,v17=sI (val4 (limb v15 0) (limb v15 1) (limb v15 2) (limb v15 3)) (val4 (limb v16 0) (limb v16 1) (limb v16 2) (limb v16 3))->(U64 (limb v17 0)/\U64 (limb v17 1)/\U64 (limb v17 2)/\U64 (limb v17 3)/\U64 (limb v2 0)/\U64 (limb v2 1)/\U64 (limb v2 2)/\U64 (limb v2 3))/\∀ v18,v18=aI (val4 (limb v17 0) (limb v17 1) (limb v17 2) (limb v17 3)) (val4 (limb v2 0) (limb v2 1) (limb v2 2) (limb v2 3))->false=onP (val4 ax0 ax1 ax2 ax3) (val4 ay0 ay1 ay2 ay3) ai))
theorem tiePOn (w0:World) (ax0:Int) (ax1:Int) (ax2:Int) (ax3:Int) (ay0:Int) (ay1:Int) (ay2:Int) (ay3:Int) (ai:Bool):VCPOn ax0 ax1 ax2 ax3 ay0 ay1 ay2 ay3 ai=((recN (GC Tryz.prog pt9Spec w0) 40).call 32 [.agg [.int .u64 (.sym ax0),.int .u64 (.sym ax1),.int .u64 (.sym ax2),.int .u64 (.sym ax3),.int .u64 (.sym ay0),.int .u64 (.sym ay1),.int .u64 (.sym ay2),.int .u64 (.sym ay3),.bool (.sym ai)]] [] (fun r__ _=>eqV r__ (.bool (.sym (onP (val4 ax0 ax1 ax2 ax3) (val4 ay0 ay1 ay2 ay3) ai))))):=by kernel_rfl
theorem purePOn (ax0 ax1 ax2 ax3 ay0 ay1 ay2 ay3:Int) (ai:Bool) (h:U64 ax0/\U64 ax1/\U64 ax2/\U64 ax3/\U64 ay0/\U64 ay1/\U64 ay2/\U64 ay3):VCPOn ax0 ax1 ax2 ax3 ay0 ay1 ay2 ay3 ai:=by
 obtain ⟨hax0,hax1,hax2,hax3,hay0,hay1,hay2,hay3⟩:=h
 have eax0:U64 ax0=True:=eq_true hax0
 have eax1:U64 ax1=True:=eq_true hax1
 have eax2:U64 ax2=True:=eq_true hax2
 have eax3:U64 ax3=True:=eq_true hax3
 have eay0:U64 ay0=True:=eq_true hay0
 have eay1:U64 ay1=True:=eq_true hay1
 have eay2:U64 ay2=True:=eq_true hay2
 have eay3:U64 ay3=True:=eq_true hay3
 have z0:U64 0=True:=eq_true U64_0
 have z3:U64 3=True:=eq_true (by decide)
 have p0:U64 18446744073709551615=True:=eq_true (by decide)
 have p1:U64 4294967295=True:=eq_true (by decide)
 have p3:U64 18446744069414584321=True:=eq_true (by decide)
 have lb:val4 (limb 41058363725152142129326129780047268409114441015993725554835256314039467401291 0) (limb 41058363725152142129326129780047268409114441015993725554835256314039467401291 1) (limb 41058363725152142129326129780047268409114441015993725554835256314039467401291 2) (limb 41058363725152142129326129780047268409114441015993725554835256314039467401291 3)=41058363725152142129326129780047268409114441015993725554835256314039467401291:=val4_limb' (by decide) (by decide)
 refine ⟨fun e v1 h1=>?_,fun e=>⟨Or.inr (Or.inr rfl),fun v2 h2=>?_⟩⟩
 ·subst e
  rw [h1,eq4 hax0 hax1 hax2 hax3 U64_0 U64_0 U64_0 U64_0,eq4 hay0 hay1 hay2 hay3 U64_0 U64_0 U64_0 U64_0,onP_inf]
  have q0:val4 0 0 0 0=0:=rfl
  simp [q0]
 ·subst e; subst h2
  simp only [forall_eq,ulP,ltI,laI,lsI,eax0,eax1,eax2,eax3,eay0,eay1,eay2,eay3,z0,z3,p0,p1,p3,lb,true_and,cmp_neg,dta,cu_same,onP_fin]
  generalize val4 ax0 ax1 ax2 ax3=X
  generalize val4 ay0 ay1 ay2 ay3=Y
  refine ⟨fun c1=>⟨fun c2=>?_,fun c2=>?_⟩,fun c1=>?_⟩
  ·rw [show (P2:Int)=115792089210356248762697446949407573530086143415290314195533631308867097853951 from rfl,c1,c2]; rfl
  ·rw [show (P2:Int)=115792089210356248762697446949407573530086143415290314195533631308867097853951 from rfl,c1,c2]; rfl
  ·rw [show (P2:Int)=115792089210356248762697446949407573530086143415290314195533631308867097853951 from rfl,c1]; rfl
theorem pOn_ok:SpecOk Tryz.prog 32 pOnSpec:=by
 intro args k h
 unfold pOnSpec at h
 split at h
 ·rename_i ax0 ax1 ax2 ax3 ay0 ay1 ay2 ay3 ai
  obtain ⟨hr,h⟩:=h
  exact ⟨_,h _ rfl,PureOk.of_tie (GC Tryz.prog pt9Spec) (fun w__=>gok w__ namesOk_ mixed_ pt9_ok) (fun _=>rfl) (fun _=>rfl) (args':=[.agg [.int .u64 (.sym ax0.val),.int .u64 (.sym ax1.val),.int .u64 (.sym ax2.val),.int .u64 (.sym ax3.val),.int .u64 (.sym ay0.val),.int .u64 (.sym ay1.val),.int .u64 (.sym ay2.val),.int .u64 (.sym ay3.val),.bool (.sym ai.val)]]) ⟨⟨⟨rfl,rfl⟩,⟨rfl,rfl⟩,⟨rfl,rfl⟩,⟨rfl,rfl⟩,⟨rfl,rfl⟩,⟨rfl,rfl⟩,⟨rfl,rfl⟩,⟨rfl,rfl⟩,rfl,trivial⟩,trivial⟩ 40 (fun w__=>VCPOn ax0.val ax1.val ax2.val ax3.val ay0.val ay1.val ay2.val ay3.val ai.val) (fun w__=>tiePOn w__ ax0.val ax1.val ax2.val ax3.val ay0.val ay1.val ay2.val ay3.val ai.val) (fun w__=>purePOn ax0.val ax1.val ax2.val ax3.val ay0.val ay1.val ay2.val ay3.val ai.val hr)⟩
 ·exact h.elim

end Go.Proofs.YtaaobpalpcdlbaaGreat.Bits
