import Derived.Test.YtaaobpalpcdlbaaGreatSxR
import Derived.Test.YtaaobpalpcdlbaaGreatProg
import Derived.Test.YtaaobpalpcdlbaaGreatRef3
import Derived.Test.YtaaobpalpcdlbaaGreatPow0
import Derived.KernelRfl
namespace Go.Proofs.YtaaobpalpcdlbaaGreat.Bits
open Go Go.Sx Go.RowKit
set_option linter.unusedVariables false
set_option maxRecDepth 100000
def hvF (x m:Int):Int:=if x%2=1 then (x+m)/2 else x/2
def lsF (a b m:Int):Int:=if a<b then a-b+m else a-b
def hvCSpec:St->Inv:=fun S =>
 {ι:=Int×Int
  T:=fun p=>keepS (stS (hNumSpec S 0 p.1) [(5,.int .u64 (.sym p.2))]) [2,3,4,5]
  R:=fun p=>p=if val4 (hat S 0 0) (hat S 0 1) (hat S 0 2) (hat S 0 3)%2=1 then ((val4 (hat S 0 0) (hat S 0 1) (hat S 0 2) (hat S 0 3)+val4 (hat S 1 0) (hat S 1 1) (hat S 1 2) (hat S 1 3))%115792089237316195423570985008687907853269984665640564039457584007913129639936,(val4 (hat S 0 0) (hat S 0 1) (hat S 0 2) (hat S 0 3)+val4 (hat S 1 0) (hat S 1 1) (hat S 1 2) (hat S 1 3))/115792089237316195423570985008687907853269984665640564039457584007913129639936) else (val4 (hat S 0 0) (hat S 0 1) (hat S 0 2) (hat S 0 3),0)
  μ:=fun _=>0 }
def ref4Spec:List (FuncId×CSpec):=[(59,rRemSpec),(91,rAddSpec),(97,rSubSpec),(23,rCmpSpec),(80,rBitSpec),(78,rLenSpec),(90,rDivSpec),(65,r2SubSpec),(67,r2MulSpec)]
theorem ref4_ok:SpecsOk Tryz.prog ref4Spec:=⟨rRem_ok,rAdd_ok,rSub_ok,rCmp_ok,rBit_ok,rLen_ok,rDiv_ok,r2Sub_ok,r2Mul_ok,trivial⟩
def hvAnnSpec:Anns:=[]
def hvCutSpec:Anns:=[(112,100010,hvCSpec)]
def halfSpec:CSpec
 | [.agg [.int .u64 x0,.int .u64 x1,.int .u64 x2,.int .u64 x3]],k=>((U64 x0.val)/\(U64 x1.val)/\(U64 x2.val)/\(U64 x3.val))/\(∀ r0:Int,r0=((val4 x0.val x1.val x2.val x3.val)/2)->k (.agg [.int .u64 (.sym (limb r0 0)),.int .u64 (.sym (limb r0 1)),.int .u64 (.sym (limb r0 2)),.int .u64 (.sym (limb r0 3))]))
 | _,_=>False
def VCHalf (x0:Int) (x1:Int) (x2:Int) (x3:Int):Prop :=
 ∀ v1,v1=shrI IntKind.u64 x0 (1:Int)->∀ v2,v2=shlI IntKind.u64 x1 (63:Int)->∀ v3,v3=bitI BinOp.or IntKind.u64 v1 v2->∀ v4,v4=shrI IntKind.u64 x1 (1:Int)->∀ v5,v5=shlI IntKind.u64 x2 (63:Int)->∀ v6,v6=bitI BinOp.or IntKind.u64 v4 v5->∀ v7,v7=shrI IntKind.u64 x2 (1:Int)->∀ v8,v8=shlI IntKind.u64 x3 (63:Int)->∀ v9,v9=bitI BinOp.or IntKind.u64 v7 v8->∀ v10,v10=shrI IntKind.u64 x3 (1:Int)->(IntKind.u64=IntKind.u64/\v3=limb (val4 x0 x1 x2 x3/(2:Int)) 0)/\(IntKind.u64=IntKind.u64/\v6=limb (val4 x0 x1 x2 x3/(2:Int)) 1)/\(IntKind.u64=IntKind.u64/\v9=limb (val4 x0 x1 x2 x3/(2:Int)) 2)/\(IntKind.u64=IntKind.u64/\v10=limb (val4 x0 x1 x2 x3/(2:Int)) 3)/\True
theorem tieHalf (w0:World) (x0:Int) (x1:Int) (x2:Int) (x3:Int):VCHalf x0 x1 x2 x3=((recN (GC Tryz.prog ref4Spec w0) 40).call 111 [.agg [.int .u64 (.sym x0),.int .u64 (.sym x1),.int .u64 (.sym x2),.int .u64 (.sym x3)]] [] (fun r__ _=>eqV r__ (.agg [.int .u64 (.sym (limb ((val4 x0 x1 x2 x3)/2) 0)),.int .u64 (.sym (limb ((val4 x0 x1 x2 x3)/2) 1)),.int .u64 (.sym (limb ((val4 x0 x1 x2 x3)/2) 2)),.int .u64 (.sym (limb ((val4 x0 x1 x2 x3)/2) 3))]))):=by kernel_rfl
theorem shrC {x:Int} {j:Nat} {u w a b c:Int} (hu:u=limb x j) (hw:w=limb x (j+1)) (ha:a=shrI .u64 u 1) (hb:b=shlI .u64 w 63) (hc:c=bitI .or .u64 a b):c=limb (x/2) j:=by
 subst hu; subst hw; exact shr1 x j a b c ha hb hc
theorem pureHalf (x0 x1 x2 x3:Int) (h:U64 x0/\U64 x1/\U64 x2/\U64 x3):VCHalf x0 x1 x2 x3:=by
 obtain ⟨h0,h1,h2,h3⟩:=h
 have b:=val4_lt h0 h1 h2 h3
 obtain ⟨l0,l1,l2,l3⟩:=limbs4' h0 h1 h2 h3
 intro v1 e1 v2 e2 v3 e3 v4 e4 v5 e5 v6 e6 v7 e7 v8 e8 v9 e9 v10 e10
 exact ⟨⟨rfl,shrC (j:=0) l0.symm l1.symm e1 e2 e3⟩,⟨rfl,shrC (j:=1) l1.symm l2.symm e4 e5 e6⟩,⟨rfl,shrC (j:=2) l2.symm l3.symm e7 e8 e9⟩,⟨rfl,shr1_top b.1 b.2 v10 (by rw [e10,l3])⟩,trivial⟩
theorem half_ok:SpecOk Tryz.prog 111 halfSpec:=by
 intro args k h
 unfold halfSpec at h
 split at h
 ·rename_i x0 x1 x2 x3
  obtain ⟨hr,h⟩:=h
  exact ⟨_,h _ rfl,PureOk.of_tie (GC Tryz.prog ref4Spec) (fun w__=>gok w__ namesOk_ mixed_ ref4_ok) (fun _=>rfl) (fun _=>rfl) (args':=[.agg [.int .u64 (.sym x0.val),.int .u64 (.sym x1.val),.int .u64 (.sym x2.val),.int .u64 (.sym x3.val)]]) ⟨⟨⟨rfl,rfl⟩,⟨rfl,rfl⟩,⟨rfl,rfl⟩,⟨rfl,rfl⟩,trivial⟩,trivial⟩ 40 (fun w__=>VCHalf x0.val x1.val x2.val x3.val) (fun w__=>tieHalf w__ x0.val x1.val x2.val x3.val) (fun w__=>pureHalf x0.val x1.val x2.val x3.val hr)⟩
 ·exact h.elim

def halvedSpec:CSpec
 | [.agg [.int .u64 x0,.int .u64 x1,.int .u64 x2,.int .u64 x3],.agg [.int .u64 m0,.int .u64 m1,.int .u64 m2,.int .u64 m3]],k=>((U64 x0.val)/\(U64 x1.val)/\(U64 x2.val)/\(U64 x3.val)/\(U64 m0.val)/\(U64 m1.val)/\(U64 m2.val)/\(U64 m3.val))/\(∀ r0:Int,r0=(hvF (val4 x0.val x1.val x2.val x3.val) (val4 m0.val m1.val m2.val m3.val))->k (.agg [.int .u64 (.sym (limb r0 0)),.int .u64 (.sym (limb r0 1)),.int .u64 (.sym (limb r0 2)),.int .u64 (.sym (limb r0 3))]))
 | _,_=>False
def VCHalved (x0:Int) (x1:Int) (x2:Int) (x3:Int) (m0:Int) (m1:Int) (m2:Int) (m3:Int):Prop :=
 ∀ v1,v1=x0.tmod (2:Int)->∀ v2,v2=(v1==(1:Int))->((v2=true->(U64 x0/\U64 x1/\U64 x2/\U64 x3/\U64 m0/\U64 m1/\U64 m2/\U64 m3)/\∀ v3,v3=val4 x0 x1 x2 x3+val4 m0 m1 m2 m3->∀ v4,v4=(val4 x0 x1 x2 x3+val4 m0 m1 m2 m3)/(115792089237316195423570985008687907853269984665640564039457584007913129639936:Int)->∃ (x5:Int×Int),(x5=if val4 x0 x1 x2 x3%(2:Int)=(1:Int) then ((val4 x0 x1 x2 x3+val4 m0 m1 m2 m3)%(115792089237316195423570985008687907853269984665640564039457584007913129639936:Int),(val4 x0 x1 x2 x3+val4 m0 m1 m2 m3)/(115792089237316195423570985008687907853269984665640564039457584007913129639936:Int)) else (val4 x0 x1 x2 x3,(0:Int)))/\(True/\True/\True/\v4=x5.snd/\True)/\(limb v3 0=limb x5.fst 0/\limb v3 1=limb x5.fst 1/\limb v3 2=limb x5.fst 2/\limb v3 3=limb x5.fst 3/\True)/\(m0=m0/\m1=m1/\m2=m2/\m3=m3/\True)/\((0:Int)=(0:Int)/\(0:Int)=(0:Int)/\(0:Int)=(0:Int)/\(0:Int)=(0:Int)/\True)/\True)/\(v2=false->∃ (x6:Int×Int),(x6=if val4 x0 x1 x2 x3%(2:Int)=(1:Int) then ((val4 x0 x1 x2 x3+val4 m0 m1 m2 m3)%(115792089237316195423570985008687907853269984665640564039457584007913129639936:Int),(val4 x0 x1 x2 x3+val4 m0 m1 m2 m3)/(115792089237316195423570985008687907853269984665640564039457584007913129639936:Int)) else (val4 x0 x1 x2 x3,(0:Int)))/\(True/\True/\True/\(0:Int)=x6.snd/\True)/\(x0=limb x6.fst 0/\x1=limb x6.fst 1/\x2=limb x6.fst 2/\x3=limb x6.fst 3/\True)/\(m0=m0/\m1=m1/\m2=m2/\m3=m3/\True)/\((0:Int)=(0:Int)/\(0:Int)=(0:Int)/\(0:Int)=(0:Int)/\(0:Int)=(0:Int)/\True)/\True))/\∀ (v7:Int×Int),(v7=if val4 x0 x1 x2 x3%(2:Int)=(1:Int) then ((val4 x0 x1 x2 x3+val4 m0 m1 m2 m3)%(115792089237316195423570985008687907853269984665640564039457584007913129639936:Int),(val4 x0 x1 x2 x3+val4 m0 m1 m2 m3)/(115792089237316195423570985008687907853269984665640564039457584007913129639936:Int)) else (val4 x0 x1 x2 x3,(0:Int)))->∀ v8,v8=shrI IntKind.u64 (limb v7.fst 0) (1:Int)->∀ v9,v9=shlI IntKind.u64 (limb v7.fst 1) (63:Int)->∀ v10,v10=bitI BinOp.or IntKind.u64 v8 v9->∀ v11,v11=shrI IntKind.u64 (limb v7.fst 1) (1:Int)->∀ v12,v12=shlI IntKind.u64 (limb v7.fst 2) (63:Int)->∀ v13,v13=bitI BinOp.or IntKind.u64 v11 v12->∀ v14,v14=shrI IntKind.u64 (limb v7.fst 2) (1:Int)->∀ v15,v15=shlI IntKind.u64 (limb v7.fst 3) (63:Int)->∀ v16,v16=bitI BinOp.or IntKind.u64 v14 v15->∀ v17,v17=shrI IntKind.u64 (limb v7.fst 3) (1:Int)->∀ v18,v18=shlI IntKind.u64 v7.snd (63:Int)->∀ v19,v19=bitI BinOp.or IntKind.u64 v17 v18->(IntKind.u64=IntKind.u64/\v10=limb (hvF (val4 x0 x1 x2 x3) (val4 m0 m1 m2 m3)) 0)/\(IntKind.u64=IntKind.u64/\v13=limb (hvF (val4 x0 x1 x2 x3) (val4 m0 m1 m2 m3)) 1)/\(IntKind.u64=IntKind.u64/\v16=limb (hvF (val4 x0 x1 x2 x3) (val4 m0 m1 m2 m3)) 2)/\(IntKind.u64=IntKind.u64/\v19=limb (hvF (val4 x0 x1 x2 x3) (val4 m0 m1 m2 m3)) 3)/\True
theorem tieHalved (w0:World) (x0:Int) (x1:Int) (x2:Int) (x3:Int) (m0:Int) (m1:Int) (m2:Int) (m3:Int):VCHalved x0 x1 x2 x3 m0 m1 m2 m3=((recN (GL Tryz.prog ref4Spec hvAnnSpec hvCutSpec w0) 40).call 112 [.agg [.int .u64 (.sym x0),.int .u64 (.sym x1),.int .u64 (.sym x2),.int .u64 (.sym x3)],.agg [.int .u64 (.sym m0),.int .u64 (.sym m1),.int .u64 (.sym m2),.int .u64 (.sym m3)]] [] (fun r__ _=>eqV r__ (.agg [.int .u64 (.sym (limb (hvF (val4 x0 x1 x2 x3) (val4 m0 m1 m2 m3)) 0)),.int .u64 (.sym (limb (hvF (val4 x0 x1 x2 x3) (val4 m0 m1 m2 m3)) 1)),.int .u64 (.sym (limb (hvF (val4 x0 x1 x2 x3) (val4 m0 m1 m2 m3)) 2)),.int .u64 (.sym (limb (hvF (val4 x0 x1 x2 x3) (val4 m0 m1 m2 m3)) 3))]))):=by kernel_rfl
theorem par4 {x0 x1 x2 x3:Int} (h0:U64 x0):(x0.tmod 2=1)=(val4 x0 x1 x2 x3%2=1):=by
 unfold U64 at h0
 rw [Int.tmod_eq_emod_of_nonneg h0.1]
 unfold val4; apply propext; constructor<;>intro h<;>omega
theorem hvEnd {p:Int×Int} {w:Int} (hw:w=p.1+p.2*115792089237316195423570985008687907853269984665640564039457584007913129639936) (h2:0<=p.2/\p.2<=1) (h1:0<=p.1/\p.1<115792089237316195423570985008687907853269984665640564039457584007913129639936):∀ v8,v8=shrI IntKind.u64 (limb p.1 0) 1->∀ v9,v9=shlI IntKind.u64 (limb p.1 1) 63->∀ v10,v10=bitI BinOp.or IntKind.u64 v8 v9->∀ v11,v11=shrI IntKind.u64 (limb p.1 1) 1->∀ v12,v12=shlI IntKind.u64 (limb p.1 2) 63->∀ v13,v13=bitI BinOp.or IntKind.u64 v11 v12->∀ v14,v14=shrI IntKind.u64 (limb p.1 2) 1->∀ v15,v15=shlI IntKind.u64 (limb p.1 3) 63->∀ v16,v16=bitI BinOp.or IntKind.u64 v14 v15->∀ v17,v17=shrI IntKind.u64 (limb p.1 3) 1->∀ v18,v18=shlI IntKind.u64 p.2 63->∀ v19,v19=bitI BinOp.or IntKind.u64 v17 v18->(IntKind.u64=IntKind.u64/\v10=limb (w/2) 0)/\(IntKind.u64=IntKind.u64/\v13=limb (w/2) 1)/\(IntKind.u64=IntKind.u64/\v16=limb (w/2) 2)/\(IntKind.u64=IntKind.u64/\v19=limb (w/2) 3)/\True:=by
 obtain ⟨s,c⟩:=p
 dsimp only at *
 intro v8 e8 v9 e9 v10 e10 v11 e11 v12 e12 v13 e13 v14 e14 v15 e15 v16 e16 v17 e17 v18 e18 v19 e19
 obtain ⟨a0,a1,a2,a3⟩:=limbE s
 obtain ⟨b0,b1,b2,b3⟩:=limbE w
 have l0:limb s 0=limb w 0:=by rw [a0,b0]; omega
 have l1:limb s 1=limb w 1:=by rw [a1,b1]; omega
 have l2:limb s 2=limb w 2:=by rw [a2,b2]; omega
 have l3:limb s 3=limb w 3:=by rw [a3,b3]; omega
 have l4:c=limb w 4:=by
  have:limb w 4=w/115792089237316195423570985008687907853269984665640564039457584007913129639936%18446744073709551616:=rfl
  rw [this]; omega
 exact ⟨⟨rfl,shrC (j:=0) l0 l1 e8 e9 e10⟩,⟨rfl,shrC (j:=1) l1 l2 e11 e12 e13⟩,⟨rfl,shrC (j:=2) l2 l3 e14 e15 e16⟩,⟨rfl,shrC (j:=3) l3 l4 e17 e18 e19⟩,trivial⟩
theorem pureHalved (x0 x1 x2 x3 m0 m1 m2 m3:Int) (h:U64 x0/\U64 x1/\U64 x2/\U64 x3/\U64 m0/\U64 m1/\U64 m2/\U64 m3):VCHalved x0 x1 x2 x3 m0 m1 m2 m3:=by
 obtain ⟨h0,h1,h2,h3,hm0,hm1,hm2,hm3⟩:=h
 have b:=val4_lt h0 h1 h2 h3
 have bm:=val4_lt hm0 hm1 hm2 hm3
 obtain ⟨l0,l1,l2,l3⟩:=limbs4' h0 h1 h2 h3
 have pe:=par4 (x1:=x1) (x2:=x2) (x3:=x3) h0
 rintro v1 rfl v2 hv2
 refine ⟨brE (fun c=>?_) (fun c=>?_) v2 hv2,?_⟩
 ·rw [pe] at c
  refine ⟨⟨h0,h1,h2,h3,hm0,hm1,hm2,hm3⟩,fun v3 e3 v4 e4=>⟨_,(if_pos c).symm,⟨trivial,trivial,trivial,e4,trivial⟩,?_,⟨rfl,rfl,rfl,rfl,trivial⟩,⟨rfl,rfl,rfl,rfl,trivial⟩,trivial⟩⟩
  obtain ⟨⟨_,k0⟩,⟨_,k1⟩,⟨_,k2⟩,⟨_,k3⟩,_⟩:=limb_cong (x:=v3) (y:=(val4 x0 x1 x2 x3+val4 m0 m1 m2 m3)%115792089237316195423570985008687907853269984665640564039457584007913129639936) (by rw [e3]; omega)
  exact ⟨k0,k1,k2,k3,trivial⟩
 ·have c:¬ val4 x0 x1 x2 x3%2=1:=fun z=>c (pe▸z)
  exact ⟨_,(if_neg c).symm,⟨trivial,trivial,trivial,rfl,trivial⟩,⟨l0.symm,l1.symm,l2.symm,l3.symm,trivial⟩,⟨rfl,rfl,rfl,rfl,trivial⟩,⟨rfl,rfl,rfl,rfl,trivial⟩,trivial⟩
 ·intro p hp
  have key:∃ w,hvF (val4 x0 x1 x2 x3) (val4 m0 m1 m2 m3)=w/2/\w=p.1+p.2*115792089237316195423570985008687907853269984665640564039457584007913129639936/\(0<=p.2/\p.2<=1)/\(0<=p.1/\p.1<115792089237316195423570985008687907853269984665640564039457584007913129639936):=by
   by_cases c:val4 x0 x1 x2 x3%2=1
   ·rw [if_pos c] at hp
    refine ⟨val4 x0 x1 x2 x3+val4 m0 m1 m2 m3,by unfold hvF; rw [if_pos c],?_⟩
    rw [hp]; dsimp only; omega
   ·rw [if_neg c] at hp
    refine ⟨val4 x0 x1 x2 x3,by unfold hvF; rw [if_neg c],?_⟩
    rw [hp]; dsimp only; omega
  obtain ⟨w,e,k1,k2,k3⟩:=key
  rw [e]
  exact hvEnd k1 k2 k3
theorem halved_ok:SpecOk Tryz.prog 112 halvedSpec:=by
 intro args k h
 unfold halvedSpec at h
 split at h
 ·rename_i x0 x1 x2 x3 m0 m1 m2 m3
  obtain ⟨hr,h⟩:=h
  exact ⟨_,h _ rfl,PureOk.of_tie (GL Tryz.prog ref4Spec hvAnnSpec hvCutSpec) (fun w__=>gokL w__ namesOk_ mixed_ ref4_ok) (fun _=>rfl) (fun _=>rfl) (args':=[.agg [.int .u64 (.sym x0.val),.int .u64 (.sym x1.val),.int .u64 (.sym x2.val),.int .u64 (.sym x3.val)],.agg [.int .u64 (.sym m0.val),.int .u64 (.sym m1.val),.int .u64 (.sym m2.val),.int .u64 (.sym m3.val)]]) ⟨⟨⟨rfl,rfl⟩,⟨rfl,rfl⟩,⟨rfl,rfl⟩,⟨rfl,rfl⟩,trivial⟩,⟨⟨rfl,rfl⟩,⟨rfl,rfl⟩,⟨rfl,rfl⟩,⟨rfl,rfl⟩,trivial⟩,trivial⟩ 40 (fun w__=>VCHalved x0.val x1.val x2.val x3.val m0.val m1.val m2.val m3.val) (fun w__=>tieHalved w__ x0.val x1.val x2.val x3.val m0.val m1.val m2.val m3.val) (fun w__=>pureHalved x0.val x1.val x2.val x3.val m0.val m1.val m2.val m3.val hr)⟩
 ·exact h.elim

def lessSpec:CSpec
 | [.agg [.int .u64 a0,.int .u64 a1,.int .u64 a2,.int .u64 a3],.agg [.int .u64 b0,.int .u64 b1,.int .u64 b2,.int .u64 b3],.agg [.int .u64 m0,.int .u64 m1,.int .u64 m2,.int .u64 m3]],k=>((U64 a0.val)/\(U64 a1.val)/\(U64 a2.val)/\(U64 a3.val)/\(U64 b0.val)/\(U64 b1.val)/\(U64 b2.val)/\(U64 b3.val)/\(U64 m0.val)/\(U64 m1.val)/\(U64 m2.val)/\(U64 m3.val))/\(∀ r0:Int,r0=(lsF (val4 a0.val a1.val a2.val a3.val) (val4 b0.val b1.val b2.val b3.val) (val4 m0.val m1.val m2.val m3.val))->k (.agg [.int .u64 (.sym (limb r0 0)),.int .u64 (.sym (limb r0 1)),.int .u64 (.sym (limb r0 2)),.int .u64 (.sym (limb r0 3))]))
 | _,_=>False
def VCLess (a0:Int) (a1:Int) (a2:Int) (a3:Int) (b0:Int) (b1:Int) (b2:Int) (b3:Int) (m0:Int) (m1:Int) (m2:Int) (m3:Int):Prop :=
 (U64 a0/\U64 a1/\U64 a2/\U64 a3/\U64 b0/\U64 b1/\U64 b2/\U64 b3)/\∀ v1,v1=val4 a0 a1 a2 a3-val4 b0 b1 b2 b3->∀ (v2:Int),(v2=if val4 a0 a1 a2 a3<val4 b0 b1 b2 b3 then 1 else 0)->∀ v3,v3=(v2==(1:Int))->(v3=true->(U64 (limb v1 0)/\U64 (limb v1 1)/\U64 (limb v1 2)/\U64 (limb v1 3)/\U64 m0/\U64 m1/\U64 m2/\U64 m3)/\∀ v4,v4=val4 (limb v1 0) (limb v1 1) (limb v1 2) (limb v1 3)+val4 m0 m1 m2 m3->∀ v5,v5=(val4 (limb v1 0) (limb v1 1) (limb v1 2) (limb v1 3)+val4 m0 m1 m2 m3)/(115792089237316195423570985008687907853269984665640564039457584007913129639936:Int)->(IntKind.u64=IntKind.u64/\limb v4 0=limb (lsF (val4 a0 a1 a2 a3) (val4 b0 b1 b2 b3) (val4 m0 m1 m2 m3)) 0)/\(IntKind.u64=IntKind.u64/\limb v4 1=limb (lsF (val4 a0 a1 a2 a3) (val4 b0 b1 b2 b3) (val4 m0 m1 m2 m3)) 1)/\(IntKind.u64=IntKind.u64/\limb v4 2=limb (lsF (val4 a0 a1 a2 a3) (val4 b0 b1 b2 b3) (val4 m0 m1 m2 m3)) 2)/\(IntKind.u64=IntKind.u64/\limb v4 3=limb (lsF (val4 a0 a1 a2 a3) (val4 b0 b1 b2 b3) (val4 m0 m1 m2 m3)) 3)/\True)/\(v3=false->(IntKind.u64=IntKind.u64/\limb v1 0=limb (lsF (val4 a0 a1 a2 a3) (val4 b0 b1 b2 b3) (val4 m0 m1 m2 m3)) 0)/\(IntKind.u64=IntKind.u64/\limb v1 1=limb (lsF (val4 a0 a1 a2 a3) (val4 b0 b1 b2 b3) (val4 m0 m1 m2 m3)) 1)/\(IntKind.u64=IntKind.u64/\limb v1 2=limb (lsF (val4 a0 a1 a2 a3) (val4 b0 b1 b2 b3) (val4 m0 m1 m2 m3)) 2)/\(IntKind.u64=IntKind.u64/\limb v1 3=limb (lsF (val4 a0 a1 a2 a3) (val4 b0 b1 b2 b3) (val4 m0 m1 m2 m3)) 3)/\True)
theorem tieLess (w0:World) (a0:Int) (a1:Int) (a2:Int) (a3:Int) (b0:Int) (b1:Int) (b2:Int) (b3:Int) (m0:Int) (m1:Int) (m2:Int) (m3:Int):VCLess a0 a1 a2 a3 b0 b1 b2 b3 m0 m1 m2 m3=((recN (GC Tryz.prog ref4Spec w0) 40).call 113 [.agg [.int .u64 (.sym a0),.int .u64 (.sym a1),.int .u64 (.sym a2),.int .u64 (.sym a3)],.agg [.int .u64 (.sym b0),.int .u64 (.sym b1),.int .u64 (.sym b2),.int .u64 (.sym b3)],.agg [.int .u64 (.sym m0),.int .u64 (.sym m1),.int .u64 (.sym m2),.int .u64 (.sym m3)]] [] (fun r__ _=>eqV r__ (.agg [.int .u64 (.sym (limb (lsF (val4 a0 a1 a2 a3) (val4 b0 b1 b2 b3) (val4 m0 m1 m2 m3)) 0)),.int .u64 (.sym (limb (lsF (val4 a0 a1 a2 a3) (val4 b0 b1 b2 b3) (val4 m0 m1 m2 m3)) 1)),.int .u64 (.sym (limb (lsF (val4 a0 a1 a2 a3) (val4 b0 b1 b2 b3) (val4 m0 m1 m2 m3)) 2)),.int .u64 (.sym (limb (lsF (val4 a0 a1 a2 a3) (val4 b0 b1 b2 b3) (val4 m0 m1 m2 m3)) 3))]))):=by kernel_rfl
theorem pureLess (a0 a1 a2 a3 b0 b1 b2 b3 m0 m1 m2 m3:Int) (h:U64 a0/\U64 a1/\U64 a2/\U64 a3/\U64 b0/\U64 b1/\U64 b2/\U64 b3/\U64 m0/\U64 m1/\U64 m2/\U64 m3):VCLess a0 a1 a2 a3 b0 b1 b2 b3 m0 m1 m2 m3:=by
 obtain ⟨ha0,ha1,ha2,ha3,hb0,hb1,hb2,hb3,hm0,hm1,hm2,hm3⟩:=h
 refine ⟨⟨ha0,ha1,ha2,ha3,hb0,hb1,hb2,hb3⟩,fun v1 e1 v2 e2=>?_⟩
 refine brE (fun c=>⟨⟨limb_in ..,limb_in ..,limb_in ..,limb_in ..,hm0,hm1,hm2,hm3⟩,fun v4 e4 v5 e5=>limb_cong ?_⟩) fun c=>limb_cong ?_
 ·have hlt:val4 a0 a1 a2 a3<val4 b0 b1 b2 b3:=by
   rw [e2] at c
   split at c<;>omega
  unfold lsF; rw [if_pos hlt,e4,val4_limb,e1]; omega
 ·have hlt:¬ val4 a0 a1 a2 a3<val4 b0 b1 b2 b3:=by
   rw [e2] at c
   split at c<;>omega
  unfold lsF; rw [if_neg hlt,e1]
theorem less_ok:SpecOk Tryz.prog 113 lessSpec:=by
 intro args k h
 unfold lessSpec at h
 split at h
 ·rename_i a0 a1 a2 a3 b0 b1 b2 b3 m0 m1 m2 m3
  obtain ⟨hr,h⟩:=h
  exact ⟨_,h _ rfl,PureOk.of_tie (GC Tryz.prog ref4Spec) (fun w__=>gok w__ namesOk_ mixed_ ref4_ok) (fun _=>rfl) (fun _=>rfl) (args':=[.agg [.int .u64 (.sym a0.val),.int .u64 (.sym a1.val),.int .u64 (.sym a2.val),.int .u64 (.sym a3.val)],.agg [.int .u64 (.sym b0.val),.int .u64 (.sym b1.val),.int .u64 (.sym b2.val),.int .u64 (.sym b3.val)],.agg [.int .u64 (.sym m0.val),.int .u64 (.sym m1.val),.int .u64 (.sym m2.val),.int .u64 (.sym m3.val)]]) ⟨⟨⟨rfl,rfl⟩,⟨rfl,rfl⟩,⟨rfl,rfl⟩,⟨rfl,rfl⟩,trivial⟩,⟨⟨rfl,rfl⟩,⟨rfl,rfl⟩,⟨rfl,rfl⟩,⟨rfl,rfl⟩,trivial⟩,⟨⟨rfl,rfl⟩,⟨rfl,rfl⟩,⟨rfl,rfl⟩,⟨rfl,rfl⟩,trivial⟩,trivial⟩ 40 (fun w__=>VCLess a0.val a1.val a2.val a3.val b0.val b1.val b2.val b3.val m0.val m1.val m2.val m3.val) (fun w__=>tieLess w__ a0.val a1.val a2.val a3.val b0.val b1.val b2.val b3.val m0.val m1.val m2.val m3.val) (fun w__=>pureLess a0.val a1.val a2.val a3.val b0.val b1.val b2.val b3.val m0.val m1.val m2.val m3.val hr)⟩
 ·exact h.elim

end Go.Proofs.YtaaobpalpcdlbaaGreat.Bits
namespace Go.Proofs.YtaaobpalpcdlbaaGreat.Bits
open Go Go.Sx Go.RowKit
set_option linter.unusedVariables false
set_option maxRecDepth 100000
def oddR (a m u v x y:Int):Prop :=
 0<m/\m%2=1/\(0<=u/\u<=m)/\(0<v/\v<=m/\v%2=1)/\(0<=x/\x<m)/\(0<=y/\y<m)/\m∣a*x-u/\m∣a*y-v/\Int.gcd u v=Int.gcd a m
def rOddASpec:St->Inv:=fun S =>
 {ι:=Int×Int×Int×Int
  T:=fun p=>keepS (hNumSpec (hNumSpec (hNumSpec (hNumSpec S 3 p.1) 4 p.2.1) 5 p.2.2.1) 6 p.2.2.2) [2,3,4,5,6,7,8,9]
  R:=fun p=>oddR (val4 (hat S 0 0) (hat S 0 1) (hat S 0 2) (hat S 0 3)) (val4 (hat S 1 0) (hat S 1 1) (hat S 1 2) (hat S 1 3)) p.1 p.2.1 p.2.2.1 p.2.2.2
  μ:=fun p=>(p.1+p.2.1).toNat }
def rOddAnnSpec:Anns:=[(89,0,rOddASpec)]
def rOddCutSpec:Anns:=[]
def ref5Spec:List (FuncId×CSpec):=[(59,rRemSpec),(97,rSubSpec),(23,rCmpSpec),(111,halfSpec),(112,halvedSpec),(113,lessSpec)]
theorem ref5_ok:SpecsOk Tryz.prog ref5Spec:=⟨rRem_ok,rSub_ok,rCmp_ok,half_ok,halved_ok,less_ok,trivial⟩
theorem odd_start {a m:Int} (h0:0<m) (h1:m%2=1):oddR a m (a%m) m (1%m) 0:=by
 have b0:=Int.emod_nonneg a (show m≠0 by omega)
 have b1:=Int.emod_lt_of_pos a h0
 refine ⟨h0,h1,⟨b0,by omega⟩,⟨h0,by omega,h1⟩,⟨Int.emod_nonneg _ (by omega),Int.emod_lt_of_pos _ h0⟩,⟨Int.le_refl _,h0⟩,⟨a/m-a*(1/m),?_⟩,⟨-1,by omega⟩,?_⟩
 ·have e1:=Int.emod_def 1 m
  have e2:=Int.emod_def a m
  rw [e1,e2]; grind
 ·rw [Int.gcd_comm,gcd_step]
theorem even_of_mul {m k w:Int} (hm:m%2=1) (h:2*w=m*k):m∣w:=by
 have e:=Int.mul_emod m k 2
 rw [hm,← h] at e
 have:k%2=0:=by omega
 refine ⟨k/2,?_⟩
 have e2:k=2*(k/2):=by omega
 rw [e2] at h
 have:m*(2*(k/2))=2*(m*(k/2)):=by grind
 omega
theorem gcd_half {u v:Int} (hv:v%2=1) (hu:u%2=0):Int.gcd (u/2) v=Int.gcd u v:=by
 have e:u=2*(u/2):=by omega
 have c:Nat.Coprime 2 v.natAbs:=by
  have:v.natAbs%2=1:=by omega
  unfold Nat.Coprime
  rw [Nat.gcd_rec,this]; decide
 have k:=Nat.Coprime.gcd_mul_left_cancel (u/2).natAbs c
 have e2:Int.gcd u v=Nat.gcd (2*(u/2)).natAbs v.natAbs:=by rw [← e]; rfl
 rw [e2,Int.natAbs_mul]
 exact k.symm
theorem odd_half {a m u v x y:Int} (h:oddR a m u v x y) (hu:u%2=0):oddR a m (u/2) v (hvF x m) y:=by
 obtain ⟨h0,h1,⟨u0,u1⟩,⟨v0,v1,v2⟩,⟨x0,x1⟩,⟨y0,y1⟩,⟨k,hk⟩,dy,g⟩:=h
 refine ⟨h0,h1,⟨by omega,by omega⟩,⟨v0,v1,v2⟩,?_,⟨y0,y1⟩,?_,dy,by rw [gcd_half v2 hu,g]⟩
 ·unfold hvF; split<;>omega
 ·unfold hvF
  split
  ·have e:2*((x+m)/2)=x+m:=by omega
   refine even_of_mul h1 (k:=k+a) ?_
   have:2*(a*((x+m)/2)-u/2)=a*(2*((x+m)/2))-2*(u/2):=by grind
   rw [this,e,show 2*(u/2)=u by omega]
   grind
  ·have e:2*(x/2)=x:=by omega
   refine even_of_mul h1 (k:=k) ?_
   have:2*(a*(x/2)-u/2)=a*(2*(x/2))-2*(u/2):=by grind
   rw [this,e,show 2*(u/2)=u by omega]
   exact hk
theorem ls_in {x y m:Int} (hx:0<=x/\x<m) (hy:0<=y/\y<m):0<=lsF x y m/\lsF x y m<m:=by unfold lsF; split<;>omega
theorem ls_dvd {a m u v x y:Int} (hx:m∣a*x-u) (hy:m∣a*y-v):m∣a*lsF x y m-(u-v):=by
 obtain ⟨k,hk⟩:=hx
 obtain ⟨l,hl⟩:=hy
 unfold lsF
 split
 ·exact ⟨k-l+a,by grind⟩
 ·exact ⟨k-l,by grind⟩
theorem odd_lt {a m u v x y:Int} (h:oddR a m u v x y) (hu:u%2=1) (hl:u<v):oddR a m (v-u) u (lsF y x m) x:=by
 obtain ⟨h0,h1,⟨u0,u1⟩,⟨v0,v1,v2⟩,⟨x0,x1⟩,⟨y0,y1⟩,dx,dy,g⟩:=h
 refine ⟨h0,h1,⟨by omega,by omega⟩,⟨by omega,u1,hu⟩,ls_in ⟨y0,y1⟩ ⟨x0,x1⟩,⟨x0,x1⟩,ls_dvd dy dx,dx,?_⟩
 have:=Int.gcd_sub_mul_left_right u v 1
 rw [Int.mul_one] at this
 rw [Int.gcd_comm,this,g]
theorem odd_ge {a m u v x y:Int} (h:oddR a m u v x y) (hl:¬ u<v):oddR a m (u-v) v (lsF x y m) y:=by
 obtain ⟨h0,h1,⟨u0,u1⟩,⟨v0,v1,v2⟩,⟨x0,x1⟩,⟨y0,y1⟩,dx,dy,g⟩:=h
 refine ⟨h0,h1,⟨by omega,by omega⟩,⟨v0,v1,v2⟩,ls_in ⟨x0,x1⟩ ⟨y0,y1⟩,⟨y0,y1⟩,ls_dvd dx dy,dy,?_⟩
 have:=Int.gcd_sub_mul_left_right v u 1
 rw [Int.mul_one] at this
 rw [Int.gcd_comm,this,Int.gcd_comm,g]
theorem limb0_mod2 {x:Int}:(limb x 0).tmod 2=x%2:=by
 have:=(limbE x).1
 rw [Int.tmod_eq_emod_of_nonneg (limb_in x 0).1,this]; omega
def rOddSpec:CSpec
 | [.agg [.int .u64 a0,.int .u64 a1,.int .u64 a2,.int .u64 a3],.agg [.int .u64 m0,.int .u64 m1,.int .u64 m2,.int .u64 m3]],k=>((U64 a0.val)/\(U64 a1.val)/\(U64 a2.val)/\(U64 a3.val)/\(U64 m0.val)/\(U64 m1.val)/\(U64 m2.val)/\(U64 m3.val)/\(m0.val%2=1))/\(∀ r0:Int,r0=(invF (val4 a0.val a1.val a2.val a3.val) (val4 m0.val m1.val m2.val m3.val))->∀ r1:Bool,r1=(okF (val4 a0.val a1.val a2.val a3.val) (val4 m0.val m1.val m2.val m3.val))->k (.tup [.agg [.int .u64 (.sym (limb r0 0)),.int .u64 (.sym (limb r0 1)),.int .u64 (.sym (limb r0 2)),.int .u64 (.sym (limb r0 3))],.bool (.sym r1)]))
 | _,_=>False
def VCROdd (a0:Int) (a1:Int) (a2:Int) (a3:Int) (m0:Int) (m1:Int) (m2:Int) (m3:Int):Prop :=
 (U64 a0/\U64 a1/\U64 a2/\U64 a3/\U64 0/\U64 0/\U64 0/\U64 0/\U64 m0/\U64 m1/\U64 m2/\U64 m3)/\∀ v1,v1=rF (val4 a0 a1 a2 a3) (0:Int) (val4 m0 m1 m2 m3)->(U64 1/\U64 0/\U64 0/\U64 0/\U64 0/\U64 0/\U64 0/\U64 0/\U64 m0/\U64 m1/\U64 m2/\U64 m3)/\∀ v2,v2=rF (1:Int) (0:Int) (val4 m0 m1 m2 m3)->(∃ (x3:Int×Int×Int×Int),oddR (val4 a0 a1 a2 a3) (val4 m0 m1 m2 m3) x3.fst x3.snd.fst x3.snd.snd.fst x3.snd.snd.snd/\(True/\True/\True/\false=false/\True/\True/\True/\True/\True)/\(a0=a0/\a1=a1/\a2=a2/\a3=a3/\True)/\(m0=m0/\m1=m1/\m2=m2/\m3=m3/\True)/\((0:Int)=(0:Int)/\(0:Int)=(0:Int)/\(0:Int)=(0:Int)/\(0:Int)=(0:Int)/\True)/\(limb v1 0=limb x3.fst 0/\limb v1 1=limb x3.fst 1/\limb v1 2=limb x3.fst 2/\limb v1 3=limb x3.fst 3/\True)/\(m0=limb x3.snd.fst 0/\m1=limb x3.snd.fst 1/\m2=limb x3.snd.fst 2/\m3=limb x3.snd.fst 3/\True)/\(limb v2 0=limb x3.snd.snd.fst 0/\limb v2 1=limb x3.snd.snd.fst 1/\limb v2 2=limb x3.snd.snd.fst 2/\limb v2 3=limb x3.snd.snd.fst 3/\True)/\((0:Int)=limb x3.snd.snd.snd 0/\(0:Int)=limb x3.snd.snd.snd 1/\(0:Int)=limb x3.snd.snd.snd 2/\(0:Int)=limb x3.snd.snd.snd 3/\True)/\True)/\∀ (v4:Int×Int×Int×Int),oddR (val4 a0 a1 a2 a3) (val4 m0 m1 m2 m3) v4.fst v4.snd.fst v4.snd.snd.fst v4.snd.snd.snd->∀ (v5:Bool),v5=!(limb v4.fst 0==(0:Int)&&(limb v4.fst 1==(0:Int)&&(limb v4.fst 2==(0:Int)&&(limb v4.fst 3==(0:Int)&&true))))->(v5=true->∀ v6,v6=(limb v4.fst 0).tmod (2:Int)->∀ v7,v7=(v6==(0:Int))->(v7=true->(U64 (limb v4.fst 0)/\U64 (limb v4.fst 1)/\U64 (limb v4.fst 2)/\U64 (limb v4.fst 3))/\∀ v8,v8=val4 (limb v4.fst 0) (limb v4.fst 1) (limb v4.fst 2) (limb v4.fst 3)/(2:Int)->(U64 (limb v4.snd.snd.fst 0)/\U64 (limb v4.snd.snd.fst 1)/\U64 (limb v4.snd.snd.fst 2)/\U64 (limb v4.snd.snd.fst 3)/\U64 m0/\U64 m1/\U64 m2/\U64 m3)/\∀ v9,v9=hvF (val4 (limb v4.snd.snd.fst 0) (limb v4.snd.snd.fst 1) (limb v4.snd.snd.fst 2) (limb v4.snd.snd.fst 3)) (val4 m0 m1 m2 m3)->∃ (x10:Int×Int×Int×Int),oddR (val4 a0 a1 a2 a3) (val4 m0 m1 m2 m3) x10.fst x10.snd.fst x10.snd.snd.fst x10.snd.snd.snd/\((True/\True/\True/\false=false/\True/\True/\True/\True/\True)/\(a0=a0/\a1=a1/\a2=a2/\a3=a3/\True)/\(m0=m0/\m1=m1/\m2=m2/\m3=m3/\True)/\((0:Int)=(0:Int)/\(0:Int)=(0:Int)/\(0:Int)=(0:Int)/\(0:Int)=(0:Int)/\True)/\(limb v8 0=limb x10.fst 0/\limb v8 1=limb x10.fst 1/\limb v8 2=limb x10.fst 2/\limb v8 3=limb x10.fst 3/\True)/\(limb v4.snd.fst 0=limb x10.snd.fst 0/\limb v4.snd.fst 1=limb x10.snd.fst 1/\limb v4.snd.fst 2=limb x10.snd.fst 2/\limb v4.snd.fst 3=limb x10.snd.fst 3/\True)/\(limb v9 0=limb x10.snd.snd.fst 0/\limb v9 1=limb x10.snd.snd.fst 1/\limb v9 2=limb x10.snd.snd.fst 2/\limb v9 3=limb x10.snd.snd.fst 3/\True)/\(limb v4.snd.snd.snd 0=limb x10.snd.snd.snd 0/\limb v4.snd.snd.snd 1=limb x10.snd.snd.snd 1/\limb v4.snd.snd.snd 2=limb x10.snd.snd.snd 2/\limb v4.snd.snd.snd 3=limb x10.snd.snd.snd 3/\True)/\True)/\(x10.fst+x10.snd.fst).toNat<(v4.fst+v4.snd.fst).toNat)/\(v7=false->(U64 (limb v4.fst 0)/\U64 (limb v4.fst 1)/\U64 (limb v4.fst 2)/\U64 (limb v4.fst 3)/\U64 (limb v4.snd.fst 0)/\U64 (limb v4.snd.fst 1)/\U64 (limb v4.snd.fst 2)/\U64 (limb v4.snd.fst 3))/\∀ v11,v11=cmpF (val4 (limb v4.fst 0) (limb v4.fst 1) (limb v4.fst 2) (limb v4.fst 3)) (val4 (limb v4.snd.fst 0) (limb v4.snd.fst 1) (limb v4.snd.fst 2) (limb v4.snd.fst 3))->∀ v12,v12=decide (v11<(0:Int))->(v12=true->(U64 (limb v4.snd.fst 0)/\U64 (limb v4.snd.fst 1)/\U64 (limb v4.snd.fst 2)/\U64 (limb v4.snd.fst 3)/\U64 (limb v4.fst 0)/\U64 (limb v4.fst 1)/\U64 (limb v4.fst 2)/\U64 (limb v4.fst 3))/\∀ v13,v13=val4 (limb v4.snd.fst 0) (limb v4.snd.fst 1) (limb v4.snd.fst 2) (limb v4.snd.fst 3)-val4 (limb v4.fst 0) (limb v4.fst 1) (limb v4.fst 2) (limb v4.fst 3)->∀ (v14:Int),(v14=if val4 (limb v4.snd.fst 0) (limb v4.snd.fst 1) (limb v4.snd.fst 2) (limb v4.snd.fst 3)<val4 (limb v4.fst 0) (limb v4.fst 1) (limb v4.fst 2) (limb v4.fst 3) then (1:Int) else (0:Int))->(U64 (limb v4.snd.snd.snd 0)/\U64 (limb v4.snd.snd.snd 1)/\U64 (limb v4.snd.snd.snd 2)/\U64 (limb v4.snd.snd.snd 3)/\U64 (limb v4.snd.snd.fst 0)/\U64 (limb v4.snd.snd.fst 1)/\U64 (limb v4.snd.snd.fst 2)/\U64 (limb v4.snd.snd.fst 3)/\U64 m0/\U64 m1/\U64 m2/\U64 m3)/\∀ v15,v15=lsF (val4 (limb v4.snd.snd.snd 0) (limb v4.snd.snd.snd 1) (limb v4.snd.snd.snd 2) (limb v4.snd.snd.snd 3)) (val4 (limb v4.snd.snd.fst 0) (limb v4.snd.snd.fst 1) (limb v4.snd.snd.fst 2) (limb v4.snd.snd.fst 3)) (val4 m0 m1 m2 m3)->∃ (x16:Int×Int×Int×Int),oddR (val4 a0 a1 a2 a3) (val4 m0 m1 m2 m3) x16.fst x16.snd.fst x16.snd.snd.fst x16.snd.snd.snd/\((True/\True/\True/\false=false/\True/\True/\True/\True/\True)/\(a0=a0/\a1=a1/\a2=a2/\a3=a3/\True)/\(m0=m0/\m1=m1/\m2=m2/\m3=m3/\True)/\((0:Int)=(0:Int)/\(0:Int)=(0:Int)/\(0:Int)=(0:Int)/\(0:Int)=(0:Int)/\True)/\(limb v13 0=limb x16.fst 0/\limb v13 1=limb x16.fst 1/\limb v13 2=limb x16.fst 2/\limb v13 3=limb x16.fst 3/\True)/\(limb v4.fst 0=limb x16.snd.fst 0/\limb v4.fst 1=limb x16.snd.fst 1/\limb v4.fst 2=limb x16.snd.fst 2/\limb v4.fst 3=limb x16.snd.fst 3/\True)/\(limb v15 0=limb x16.snd.snd.fst 0/\limb v15 1=limb x16.snd.snd.fst 1/\limb v15 2=limb x16.snd.snd.fst 2/\limb v15 3=limb x16.snd.snd.fst 3/\True)/\(limb v4.snd.snd.fst 0=limb x16.snd.snd.snd 0/\limb v4.snd.snd.fst 1=limb x16.snd.snd.snd 1/\limb v4.snd.snd.fst 2=limb x16.snd.snd.snd 2/\limb v4.snd.snd.fst 3=limb x16.snd.snd.snd 3/\True)/\True)/\(x16.fst+x16.snd.fst).toNat<(v4.fst+v4.snd.fst).toNat)/\(v12=false->(U64 (limb v4.fst 0)/\U64 (limb v4.fst 1)/\U64 (limb v4.fst 2)/\U64 (limb v4.fst 3)/\U64 (limb v4.snd.fst 0)/\U64 (limb v4.snd.fst 1)/\U64 (limb v4.snd.fst 2)/\U64 (limb v4.snd.fst 3))/\∀ v17,v17=val4 (limb v4.fst 0) (limb v4.fst 1) (limb v4.fst 2) (limb v4.fst 3)-val4 (limb v4.snd.fst 0) (limb v4.snd.fst 1) (limb v4.snd.fst 2) (limb v4.snd.fst 3)->∀ (v18:Int),(v18=if val4 (limb v4.fst 0) (limb v4.fst 1) (limb v4.fst 2) (limb v4.fst 3)<val4 (limb v4.snd.fst 0) (limb v4.snd.fst 1) (limb v4.snd.fst 2) (limb v4.snd.fst 3) then (1:Int) else (0:Int))->(U64 (limb v4.snd.snd.fst 0)/\U64 (limb v4.snd.snd.fst 1)/\U64 (limb v4.snd.snd.fst 2)/\U64 (limb v4.snd.snd.fst 3)/\U64 (limb v4.snd.snd.snd 0)/\U64 (limb v4.snd.snd.snd 1)/\U64 (limb v4.snd.snd.snd 2)/\U64 (limb v4.snd.snd.snd 3)/\U64 m0/\U64 m1/\U64 m2/\U64 m3)/\∀ v19,v19=lsF (val4 (limb v4.snd.snd.fst 0) (limb v4.snd.snd.fst 1) (limb v4.snd.snd.fst 2) (limb v4.snd.snd.fst 3)) (val4 (limb v4.snd.snd.snd 0) (limb v4.snd.snd.snd 1) (limb v4.snd.snd.snd 2) (limb v4.snd.snd.snd 3)) (val4 m0 m1 m2 m3)->∃ (x20:Int×Int×Int×Int),oddR (val4 a0 a1 a2 a3) (val4 m0 m1 m2 m3) x20.fst x20.snd.fst x20.snd.snd.fst x20.snd.snd.snd/\((True/\True/\True/\false=false/\True/\True/\True/\True/\True)/\(a0=a0/\a1=a1/\a2=a2/\a3=a3/\True)/\(m0=m0/\m1=m1/\m2=m2/\m3=m3/\True)/\((0:Int)=(0:Int)/\(0:Int)=(0:Int)/\(0:Int)=(0:Int)/\(0:Int)=(0:Int)/\True)/\(limb v17 0=limb x20.fst 0/\limb v17 1=limb x20.fst 1/\limb v17 2=limb x20.fst 2/\limb v17 3=limb x20.fst 3/\True)/\(limb v4.snd.fst 0=limb x20.snd.fst 0/\limb v4.snd.fst 1=limb x20.snd.fst 1/\limb v4.snd.fst 2=limb x20.snd.fst 2/\limb v4.snd.fst 3=limb x20.snd.fst 3/\True)/\(limb v19 0=limb x20.snd.snd.fst 0/\limb v19 1=limb x20.snd.snd.fst 1/\limb v19 2=limb x20.snd.snd.fst 2/\limb v19 3=limb x20.snd.snd.fst 3/\True)/\(limb v4.snd.snd.snd 0=limb x20.snd.snd.snd 0/\limb v4.snd.snd.snd 1=limb x20.snd.snd.snd 1/\limb v4.snd.snd.snd 2=limb x20.snd.snd.snd 2/\limb v4.snd.snd.snd 3=limb x20.snd.snd.snd 3/\True)/\True)/\(x20.fst+x20.snd.fst).toNat<(v4.fst+v4.snd.fst).toNat)))/\(v5=false->∀ (v21:Bool),v21=!(limb v4.snd.fst 0==(1:Int)&&(limb v4.snd.fst 1==(0:Int)&&(limb v4.snd.fst 2==(0:Int)&&(limb v4.snd.fst 3==(0:Int)&&true))))->(v21=true->((IntKind.u64=IntKind.u64/\0=limb (invF (val4 a0 a1 a2 a3) (val4 m0 m1 m2 m3)) 0)/\(IntKind.u64=IntKind.u64/\0=limb (invF (val4 a0 a1 a2 a3) (val4 m0 m1 m2 m3)) 1)/\(IntKind.u64=IntKind.u64/\0=limb (invF (val4 a0 a1 a2 a3) (val4 m0 m1 m2 m3)) 2)/\(IntKind.u64=IntKind.u64/\0=limb (invF (val4 a0 a1 a2 a3) (val4 m0 m1 m2 m3)) 3)/\True)/\false=okF (val4 a0 a1 a2 a3) (val4 m0 m1 m2 m3)/\True)/\(v21=false->(U64 (limb v4.snd.snd.snd 0)/\U64 (limb v4.snd.snd.snd 1)/\U64 (limb v4.snd.snd.snd 2)/\U64 (limb v4.snd.snd.snd 3)/\U64 0/\U64 0/\U64 0/\U64 0/\U64 m0/\U64 m1/\U64 m2/\U64 m3)/\∀ v22,v22=rF (val4 (limb v4.snd.snd.snd 0) (limb v4.snd.snd.snd 1) (limb v4.snd.snd.snd 2) (limb v4.snd.snd.snd 3)) (0:Int) (val4 m0 m1 m2 m3)->((IntKind.u64=IntKind.u64/\limb v22 0=limb (invF (val4 a0 a1 a2 a3) (val4 m0 m1 m2 m3)) 0)/\(IntKind.u64=IntKind.u64/\limb v22 1=limb (invF (val4 a0 a1 a2 a3) (val4 m0 m1 m2 m3)) 1)/\(IntKind.u64=IntKind.u64/\limb v22 2=limb (invF (val4 a0 a1 a2 a3) (val4 m0 m1 m2 m3)) 2)/\(IntKind.u64=IntKind.u64/\limb v22 3=limb (invF (val4 a0 a1 a2 a3) (val4 m0 m1 m2 m3)) 3)/\True)/\true=okF (val4 a0 a1 a2 a3) (val4 m0 m1 m2 m3)/\True))
theorem tieROdd (w0:World) (a0:Int) (a1:Int) (a2:Int) (a3:Int) (m0:Int) (m1:Int) (m2:Int) (m3:Int):VCROdd a0 a1 a2 a3 m0 m1 m2 m3=((recN (GL Tryz.prog ref5Spec rOddAnnSpec rOddCutSpec w0) 40).call 89 [.agg [.int .u64 (.sym a0),.int .u64 (.sym a1),.int .u64 (.sym a2),.int .u64 (.sym a3)],.agg [.int .u64 (.sym m0),.int .u64 (.sym m1),.int .u64 (.sym m2),.int .u64 (.sym m3)]] [] (fun r__ _=>eqV r__ (.tup [.agg [.int .u64 (.sym (limb (invF (val4 a0 a1 a2 a3) (val4 m0 m1 m2 m3)) 0)),.int .u64 (.sym (limb (invF (val4 a0 a1 a2 a3) (val4 m0 m1 m2 m3)) 1)),.int .u64 (.sym (limb (invF (val4 a0 a1 a2 a3) (val4 m0 m1 m2 m3)) 2)),.int .u64 (.sym (limb (invF (val4 a0 a1 a2 a3) (val4 m0 m1 m2 m3)) 3))],.bool (.sym (okF (val4 a0 a1 a2 a3) (val4 m0 m1 m2 m3)))]))):=by kernel_rfl
theorem pureROdd (a0 a1 a2 a3 m0 m1 m2 m3:Int) (h:U64 a0/\U64 a1/\U64 a2/\U64 a3/\U64 m0/\U64 m1/\U64 m2/\U64 m3/\m0%2=1):VCROdd a0 a1 a2 a3 m0 m1 m2 m3:=by
 obtain ⟨ha0,ha1,ha2,ha3,hm0,hm1,hm2,hm3,hpre⟩:=h
 have ba:=val4_lt ha0 ha1 ha2 ha3
 have bm:=val4_lt hm0 hm1 hm2 hm3
 have lm:=limbs4' hm0 hm1 hm2 hm3
 have L:∀ x j,U64 (limb x j):=limb_in
 have t4:∀ {x y z w:Int},(x=x/\y=y/\z=z/\w=w/\True):=fun {x y z w}=>⟨rfl,rfl,rfl,rfl,trivial⟩
 have hodd:val4 m0 m1 m2 m3%2=1:=by unfold val4; omega
 have mp:0<val4 m0 m1 m2 m3:=by omega
 refine ⟨⟨ha0,ha1,ha2,ha3,U64_0,U64_0,U64_0,U64_0,hm0,hm1,hm2,hm3⟩,fun v1 h1=>⟨⟨U64_1,U64_0,U64_0,U64_0,U64_0,U64_0,U64_0,U64_0,hm0,hm1,hm2,hm3⟩,fun v2 h2=>⟨⟨(v1,val4 m0 m1 m2 m3,v2,0),?_,⟨trivial,trivial,trivial,rfl,trivial,trivial,trivial,trivial,trivial⟩,t4,t4,t4,t4,⟨lm.1.symm,lm.2.1.symm,lm.2.2.1.symm,lm.2.2.2.symm,trivial⟩,t4,⟨(limb0 0).symm,(limb0 1).symm,(limb0 2).symm,(limb0 3).symm,trivial⟩,trivial⟩,?_⟩⟩⟩
 ·rw [h1,h2,rF_mod,rF_mod]
  unfold modF
  rw [if_neg (by omega),if_neg (by omega)]
  exact odd_start mp hodd
 rintro ⟨u,v,x,y⟩ hp v5 h5
 dsimp only at hp h5 ⊢
 have hp':=hp
 obtain ⟨_,_,⟨u0,u1⟩,⟨v0,v1,v2⟩,⟨x0,x1⟩,⟨y0,y1⟩,dx,dy,g⟩:=hp'
 have lu:val4 (limb u 0) (limb u 1) (limb u 2) (limb u 3)=u:=val4_limb' u0 (by omega)
 have lv:val4 (limb v 0) (limb v 1) (limb v 2) (limb v 3)=v:=val4_limb' (by omega) (by omega)
 have lx:val4 (limb x 0) (limb x 1) (limb x 2) (limb x 3)=x:=val4_limb' x0 (by omega)
 have ly:val4 (limb y 0) (limb y 1) (limb y 2) (limb y 3)=y:=val4_limb' y0 (by omega)
 rw [eq4l u0 (by omega) U64_0 U64_0 U64_0 U64_0] at h5
 refine brnd (fun c5=>?_) (fun c5=>?_) v5 h5
 ·have c5:u≠0:=c5
  rw [limb0_mod2,lu,lv,lx,ly]
  rintro v6 rfl
  refine brE (fun c7=>⟨⟨L ..,L ..,L ..,L ..⟩,fun v8 h8=>⟨⟨L ..,L ..,L ..,L ..,hm0,hm1,hm2,hm3⟩,fun v9 h9=>⟨(v8,v,v9,y),?_,⟨⟨trivial,trivial,trivial,rfl,trivial,trivial,trivial,trivial,trivial⟩,t4,t4,t4,t4,t4,t4,t4,trivial⟩,by dsimp only; omega⟩⟩⟩) fun c7=>⟨⟨L ..,L ..,L ..,L ..,L ..,L ..,L ..,L ..⟩,fun v11 h11=>?_⟩
  ·rw [h8,h9]; exact odd_half hp c7
  ·refine br (fun c12=>⟨⟨L ..,L ..,L ..,L ..,L ..,L ..,L ..,L ..⟩,fun v13 h13 v14 h14=>⟨⟨L ..,L ..,L ..,L ..,L ..,L ..,L ..,L ..,hm0,hm1,hm2,hm3⟩,fun v15 h15=>⟨(v13,u,v15,x),?_,⟨⟨trivial,trivial,trivial,rfl,trivial,trivial,trivial,trivial,trivial⟩,t4,t4,t4,t4,t4,t4,t4,trivial⟩,by dsimp only; omega⟩⟩⟩) fun c12=>⟨⟨L ..,L ..,L ..,L ..,L ..,L ..,L ..,L ..⟩,fun v17 h17 v18 h18=>⟨⟨L ..,L ..,L ..,L ..,L ..,L ..,L ..,L ..,hm0,hm1,hm2,hm3⟩,fun v19 h19=>⟨(v17,v,v19,y),?_,⟨⟨trivial,trivial,trivial,rfl,trivial,trivial,trivial,trivial,trivial⟩,t4,t4,t4,t4,t4,t4,t4,trivial⟩,by dsimp only; omega⟩⟩⟩
   ·have:u<v:=by
     rw [h11] at c12; unfold cmpF at c12
     split at c12
     ·assumption
     ·split at c12<;>omega
    rw [h13,h15]; exact odd_lt hp (by omega) this
   ·have:¬ u<v:=by
     rw [h11] at c12; unfold cmpF at c12
     intro z; rw [if_pos z] at c12; omega
    rw [h17,h19]; exact odd_ge hp this
 ·have c5:u=0:=c5
  subst c5
  rw [Int.gcd_zero_left] at g
  intro v21 h21
  rw [eq4l (by omega) (by omega) U64_1 U64_0 U64_0 U64_0] at h21
  refine brnd (fun c=>?_) (fun c=>⟨⟨L ..,L ..,L ..,L ..,U64_0,U64_0,U64_0,U64_0,hm0,hm1,hm2,hm3⟩,fun v22 h22=>?_⟩) v21 h21
  ·have c:v≠1:=c
   have e8:Int.gcd (val4 a0 a1 a2 a3) (val4 m0 m1 m2 m3)≠1:=by omega
   rw [invF_none (Or.inr e8)]
   exact ⟨limb00,by unfold okF; simp [e8],trivial⟩
  ·have c:v=1:=c
   subst c
   have e1:Int.gcd (val4 a0 a1 a2 a3) (val4 m0 m1 m2 m3)=1:=by omega
   rw [invF_eq y0 y1 dy]
   refine ⟨limb_eq ?_,by unfold okF; simp [e1]; omega,trivial⟩
   rw [h22,ly,rF_mod]; unfold modF
   rw [if_neg (by omega),Int.emod_eq_of_lt y0 y1]
theorem rOdd_ok:SpecOk Tryz.prog 89 rOddSpec:=by
 intro args k h
 unfold rOddSpec at h
 split at h
 ·rename_i a0 a1 a2 a3 m0 m1 m2 m3
  obtain ⟨hr,h⟩:=h
  exact ⟨_,h _ rfl _ rfl,PureOk.of_tie (GL Tryz.prog ref5Spec rOddAnnSpec rOddCutSpec) (fun w__=>gokL w__ namesOk_ mixed_ ref5_ok) (fun _=>rfl) (fun _=>rfl) (args':=[.agg [.int .u64 (.sym a0.val),.int .u64 (.sym a1.val),.int .u64 (.sym a2.val),.int .u64 (.sym a3.val)],.agg [.int .u64 (.sym m0.val),.int .u64 (.sym m1.val),.int .u64 (.sym m2.val),.int .u64 (.sym m3.val)]]) ⟨⟨⟨rfl,rfl⟩,⟨rfl,rfl⟩,⟨rfl,rfl⟩,⟨rfl,rfl⟩,trivial⟩,⟨⟨rfl,rfl⟩,⟨rfl,rfl⟩,⟨rfl,rfl⟩,⟨rfl,rfl⟩,trivial⟩,trivial⟩ 40 (fun w__=>VCROdd a0.val a1.val a2.val a3.val m0.val m1.val m2.val m3.val) (fun w__=>tieROdd w__ a0.val a1.val a2.val a3.val m0.val m1.val m2.val m3.val) (fun w__=>pureROdd a0.val a1.val a2.val a3.val m0.val m1.val m2.val m3.val hr)⟩
 ·exact h.elim

end Go.Proofs.YtaaobpalpcdlbaaGreat.Bits
namespace Go.Proofs.YtaaobpalpcdlbaaGreat.Bits
open Go Go.Sx Go.RowKit
set_option linter.unusedVariables false
set_option maxRecDepth 100000
def rInvASpec:St->Inv:=fun S =>
 {ι:=Int×Int×Int×Int
  T:=fun p=>keepS (hNumSpec (hNumSpec (hNumSpec (hNumSpec S 3 p.1) 4 p.2.1) 5 p.2.2.1) 6 p.2.2.2) [2,3,4,5,6,7,8,9]
  R:=fun p=>invR (val4 (hat S 0 0) (hat S 0 1) (hat S 0 2) (hat S 0 3)) (val4 (hat S 1 0) (hat S 1 1) (hat S 1 2) (hat S 1 3)) p.1 p.2.1 p.2.2.1 p.2.2.2
  μ:=fun p=>p.2.1.toNat }
def rInvAnnSpec:Anns:=[(56,0,rInvASpec)]
def rInvCutSpec:Anns:=[]
def ref6Spec:List (FuncId×CSpec):=[(59,rRemSpec),(90,rDivSpec),(65,r2SubSpec),(67,r2MulSpec),(89,rOddSpec)]
theorem ref6_ok:SpecsOk Tryz.prog ref6Spec:=⟨rRem_ok,rDiv_ok,r2Sub_ok,r2Mul_ok,rOdd_ok,trivial⟩
def r2InvSpec:CSpec
 | [.agg [.int .u64 a0,.int .u64 a1,.int .u64 a2,.int .u64 a3],.agg [.int .u64 m0,.int .u64 m1,.int .u64 m2,.int .u64 m3]],k=>((U64 a0.val)/\(U64 a1.val)/\(U64 a2.val)/\(U64 a3.val)/\(U64 m0.val)/\(U64 m1.val)/\(U64 m2.val)/\(U64 m3.val))/\(∀ r0:Int,r0=(invF (val4 a0.val a1.val a2.val a3.val) (val4 m0.val m1.val m2.val m3.val))->∀ r1:Bool,r1=(okF (val4 a0.val a1.val a2.val a3.val) (val4 m0.val m1.val m2.val m3.val))->k (.tup [.agg [.int .u64 (.sym (limb r0 0)),.int .u64 (.sym (limb r0 1)),.int .u64 (.sym (limb r0 2)),.int .u64 (.sym (limb r0 3))],.bool (.sym r1)]))
 | _,_=>False
def VCR2Inv (a0:Int) (a1:Int) (a2:Int) (a3:Int) (m0:Int) (m1:Int) (m2:Int) (m3:Int):Prop :=
 ∀ v1,v1=(m0==(0:Int)&&(m1==(0:Int)&&(m2==(0:Int)&&(m3==(0:Int)&&true))))->(v1=true->((IntKind.u64=IntKind.u64/\0=limb (invF (val4 a0 a1 a2 a3) (val4 m0 m1 m2 m3)) 0)/\(IntKind.u64=IntKind.u64/\0=limb (invF (val4 a0 a1 a2 a3) (val4 m0 m1 m2 m3)) 1)/\(IntKind.u64=IntKind.u64/\0=limb (invF (val4 a0 a1 a2 a3) (val4 m0 m1 m2 m3)) 2)/\(IntKind.u64=IntKind.u64/\0=limb (invF (val4 a0 a1 a2 a3) (val4 m0 m1 m2 m3)) 3)/\True)/\false=okF (val4 a0 a1 a2 a3) (val4 m0 m1 m2 m3)/\True)/\(v1=false->∀ v2,v2=m0.tmod (2:Int)->∀ v3,v3=(v2==(1:Int))->(v3=true->(U64 a0/\U64 a1/\U64 a2/\U64 a3/\U64 m0/\U64 m1/\U64 m2/\U64 m3/\m0%(2:Int)=(1:Int))/\∀ v4,v4=invF (val4 a0 a1 a2 a3) (val4 m0 m1 m2 m3)->∀ v5,v5=okF (val4 a0 a1 a2 a3) (val4 m0 m1 m2 m3)->((IntKind.u64=IntKind.u64/\limb v4 0=limb (invF (val4 a0 a1 a2 a3) (val4 m0 m1 m2 m3)) 0)/\(IntKind.u64=IntKind.u64/\limb v4 1=limb (invF (val4 a0 a1 a2 a3) (val4 m0 m1 m2 m3)) 1)/\(IntKind.u64=IntKind.u64/\limb v4 2=limb (invF (val4 a0 a1 a2 a3) (val4 m0 m1 m2 m3)) 2)/\(IntKind.u64=IntKind.u64/\limb v4 3=limb (invF (val4 a0 a1 a2 a3) (val4 m0 m1 m2 m3)) 3)/\True)/\v5=okF (val4 a0 a1 a2 a3) (val4 m0 m1 m2 m3)/\True)/\(v3=false->(U64 a0/\U64 a1/\U64 a2/\U64 a3/\U64 0/\U64 0/\U64 0/\U64 0/\U64 m0/\U64 m1/\U64 m2/\U64 m3)/\∀ v6,v6=rF (val4 a0 a1 a2 a3) (0:Int) (val4 m0 m1 m2 m3)->(U64 1/\U64 0/\U64 0/\U64 0/\U64 0/\U64 0/\U64 0/\U64 0/\U64 m0/\U64 m1/\U64 m2/\U64 m3)/\∀ v7,v7=rF (1:Int) (0:Int) (val4 m0 m1 m2 m3)->(∃ (x8:Int×Int×Int×Int),invR (val4 a0 a1 a2 a3) (val4 m0 m1 m2 m3) x8.fst x8.snd.fst x8.snd.snd.fst x8.snd.snd.snd/\(True/\True/\True/\false=false/\True/\True/\True/\True/\True)/\(a0=a0/\a1=a1/\a2=a2/\a3=a3/\True)/\(m0=m0/\m1=m1/\m2=m2/\m3=m3/\True)/\((0:Int)=(0:Int)/\(0:Int)=(0:Int)/\(0:Int)=(0:Int)/\(0:Int)=(0:Int)/\True)/\(m0=limb x8.fst 0/\m1=limb x8.fst 1/\m2=limb x8.fst 2/\m3=limb x8.fst 3/\True)/\(limb v6 0=limb x8.snd.fst 0/\limb v6 1=limb x8.snd.fst 1/\limb v6 2=limb x8.snd.fst 2/\limb v6 3=limb x8.snd.fst 3/\True)/\((0:Int)=limb x8.snd.snd.fst 0/\(0:Int)=limb x8.snd.snd.fst 1/\(0:Int)=limb x8.snd.snd.fst 2/\(0:Int)=limb x8.snd.snd.fst 3/\True)/\(limb v7 0=limb x8.snd.snd.snd 0/\limb v7 1=limb x8.snd.snd.snd 1/\limb v7 2=limb x8.snd.snd.snd 2/\limb v7 3=limb x8.snd.snd.snd 3/\True)/\True)/\∀ (v9:Int×Int×Int×Int),invR (val4 a0 a1 a2 a3) (val4 m0 m1 m2 m3) v9.fst v9.snd.fst v9.snd.snd.fst v9.snd.snd.snd->∀ (v10:Bool),v10=!(limb v9.snd.fst 0==(0:Int)&&(limb v9.snd.fst 1==(0:Int)&&(limb v9.snd.fst 2==(0:Int)&&(limb v9.snd.fst 3==(0:Int)&&true))))->(v10=true->(U64 (limb v9.fst 0)/\U64 (limb v9.fst 1)/\U64 (limb v9.fst 2)/\U64 (limb v9.fst 3)/\U64 0/\U64 0/\U64 0/\U64 0/\U64 (limb v9.snd.fst 0)/\U64 (limb v9.snd.fst 1)/\U64 (limb v9.snd.fst 2)/\U64 (limb v9.snd.fst 3))/\∀ v11,v11=qF (val4 (limb v9.fst 0) (limb v9.fst 1) (limb v9.fst 2) (limb v9.fst 3)) (0:Int) (val4 (limb v9.snd.fst 0) (limb v9.snd.fst 1) (limb v9.snd.fst 2) (limb v9.snd.fst 3))->∀ v12,v12=qF (val4 (limb v9.fst 0) (limb v9.fst 1) (limb v9.fst 2) (limb v9.fst 3)) (0:Int) (val4 (limb v9.snd.fst 0) (limb v9.snd.fst 1) (limb v9.snd.fst 2) (limb v9.snd.fst 3))/(115792089237316195423570985008687907853269984665640564039457584007913129639936:Int)->∀ v13,v13=rF (val4 (limb v9.fst 0) (limb v9.fst 1) (limb v9.fst 2) (limb v9.fst 3)) (0:Int) (val4 (limb v9.snd.fst 0) (limb v9.snd.fst 1) (limb v9.snd.fst 2) (limb v9.snd.fst 3))->∀ (v14:Int),(v14=if val4 (limb v9.snd.fst 0) (limb v9.snd.fst 1) (limb v9.snd.fst 2) (limb v9.snd.fst 3)=(0:Int) then (13:Int) else (0:Int))->(U64 (limb v11 0)/\U64 (limb v11 1)/\U64 (limb v11 2)/\U64 (limb v11 3)/\U64 (limb v9.snd.snd.snd 0)/\U64 (limb v9.snd.snd.snd 1)/\U64 (limb v9.snd.snd.snd 2)/\U64 (limb v9.snd.snd.snd 3)/\U64 m0/\U64 m1/\U64 m2/\U64 m3)/\∀ v15,v15=modF (val4 (limb v11 0) (limb v11 1) (limb v11 2) (limb v11 3)*val4 (limb v9.snd.snd.snd 0) (limb v9.snd.snd.snd 1) (limb v9.snd.snd.snd 2) (limb v9.snd.snd.snd 3)) (val4 m0 m1 m2 m3)->(U64 (limb v9.snd.snd.fst 0)/\U64 (limb v9.snd.snd.fst 1)/\U64 (limb v9.snd.snd.fst 2)/\U64 (limb v9.snd.snd.fst 3)/\U64 (limb v15 0)/\U64 (limb v15 1)/\U64 (limb v15 2)/\U64 (limb v15 3)/\U64 m0/\U64 m1/\U64 m2/\U64 m3)/\∀ v16,v16=modF (val4 (limb v9.snd.snd.fst 0) (limb v9.snd.snd.fst 1) (limb v9.snd.snd.fst 2) (limb v9.snd.snd.fst 3)-val4 (limb v15 0) (limb v15 1) (limb v15 2) (limb v15 3)) (val4 m0 m1 m2 m3)->∃ (x17:Int×Int×Int×Int),invR (val4 a0 a1 a2 a3) (val4 m0 m1 m2 m3) x17.fst x17.snd.fst x17.snd.snd.fst x17.snd.snd.snd/\((True/\True/\True/\false=false/\True/\True/\True/\True/\True)/\(a0=a0/\a1=a1/\a2=a2/\a3=a3/\True)/\(m0=m0/\m1=m1/\m2=m2/\m3=m3/\True)/\((0:Int)=(0:Int)/\(0:Int)=(0:Int)/\(0:Int)=(0:Int)/\(0:Int)=(0:Int)/\True)/\(limb v9.snd.fst 0=limb x17.fst 0/\limb v9.snd.fst 1=limb x17.fst 1/\limb v9.snd.fst 2=limb x17.fst 2/\limb v9.snd.fst 3=limb x17.fst 3/\True)/\(limb v13 0=limb x17.snd.fst 0/\limb v13 1=limb x17.snd.fst 1/\limb v13 2=limb x17.snd.fst 2/\limb v13 3=limb x17.snd.fst 3/\True)/\(limb v9.snd.snd.snd 0=limb x17.snd.snd.fst 0/\limb v9.snd.snd.snd 1=limb x17.snd.snd.fst 1/\limb v9.snd.snd.snd 2=limb x17.snd.snd.fst 2/\limb v9.snd.snd.snd 3=limb x17.snd.snd.fst 3/\True)/\(limb v16 0=limb x17.snd.snd.snd 0/\limb v16 1=limb x17.snd.snd.snd 1/\limb v16 2=limb x17.snd.snd.snd 2/\limb v16 3=limb x17.snd.snd.snd 3/\True)/\True)/\x17.snd.fst.toNat<v9.snd.fst.toNat)/\(v10=false->∀ (v18:Bool),v18=!(limb v9.fst 0==(1:Int)&&(limb v9.fst 1==(0:Int)&&(limb v9.fst 2==(0:Int)&&(limb v9.fst 3==(0:Int)&&true))))->(v18=true->((IntKind.u64=IntKind.u64/\0=limb (invF (val4 a0 a1 a2 a3) (val4 m0 m1 m2 m3)) 0)/\(IntKind.u64=IntKind.u64/\0=limb (invF (val4 a0 a1 a2 a3) (val4 m0 m1 m2 m3)) 1)/\(IntKind.u64=IntKind.u64/\0=limb (invF (val4 a0 a1 a2 a3) (val4 m0 m1 m2 m3)) 2)/\(IntKind.u64=IntKind.u64/\0=limb (invF (val4 a0 a1 a2 a3) (val4 m0 m1 m2 m3)) 3)/\True)/\false=okF (val4 a0 a1 a2 a3) (val4 m0 m1 m2 m3)/\True)/\(v18=false->((IntKind.u64=IntKind.u64/\limb v9.snd.snd.fst 0=limb (invF (val4 a0 a1 a2 a3) (val4 m0 m1 m2 m3)) 0)/\(IntKind.u64=IntKind.u64/\limb v9.snd.snd.fst 1=limb (invF (val4 a0 a1 a2 a3) (val4 m0 m1 m2 m3)) 1)/\(IntKind.u64=IntKind.u64/\limb v9.snd.snd.fst 2=limb (invF (val4 a0 a1 a2 a3) (val4 m0 m1 m2 m3)) 2)/\(IntKind.u64=IntKind.u64/\limb v9.snd.snd.fst 3=limb (invF (val4 a0 a1 a2 a3) (val4 m0 m1 m2 m3)) 3)/\True)/\true=okF (val4 a0 a1 a2 a3) (val4 m0 m1 m2 m3)/\True))))
theorem tieR2Inv (w0:World) (a0:Int) (a1:Int) (a2:Int) (a3:Int) (m0:Int) (m1:Int) (m2:Int) (m3:Int):VCR2Inv a0 a1 a2 a3 m0 m1 m2 m3=((recN (GL Tryz.prog ref6Spec rInvAnnSpec rInvCutSpec w0) 40).call 56 [.agg [.int .u64 (.sym a0),.int .u64 (.sym a1),.int .u64 (.sym a2),.int .u64 (.sym a3)],.agg [.int .u64 (.sym m0),.int .u64 (.sym m1),.int .u64 (.sym m2),.int .u64 (.sym m3)]] [] (fun r__ _=>eqV r__ (.tup [.agg [.int .u64 (.sym (limb (invF (val4 a0 a1 a2 a3) (val4 m0 m1 m2 m3)) 0)),.int .u64 (.sym (limb (invF (val4 a0 a1 a2 a3) (val4 m0 m1 m2 m3)) 1)),.int .u64 (.sym (limb (invF (val4 a0 a1 a2 a3) (val4 m0 m1 m2 m3)) 2)),.int .u64 (.sym (limb (invF (val4 a0 a1 a2 a3) (val4 m0 m1 m2 m3)) 3))],.bool (.sym (okF (val4 a0 a1 a2 a3) (val4 m0 m1 m2 m3)))]))):=by kernel_rfl
theorem pureR2Inv (a0 a1 a2 a3 m0 m1 m2 m3:Int) (h:U64 a0/\U64 a1/\U64 a2/\U64 a3/\U64 m0/\U64 m1/\U64 m2/\U64 m3):VCR2Inv a0 a1 a2 a3 m0 m1 m2 m3:=by
 obtain ⟨ha0,ha1,ha2,ha3,hm0,hm1,hm2,hm3⟩:=h
 have bm:=val4_lt hm0 hm1 hm2 hm3
 have lm:=limbs4' hm0 hm1 hm2 hm3
 have L:∀ x j,U64 (limb x j):=limb_in
 have t4:∀ {x y z w:Int},(x=x/\y=y/\z=z/\w=w/\True):=fun {x y z w}=>⟨rfl,rfl,rfl,rfl,trivial⟩
 intro v1 h1
 rw [eq4 hm0 hm1 hm2 hm3 U64_0 U64_0 U64_0 U64_0] at h1
 refine br (fun e=>?_) (fun e=>?_) v1 h1
 ·have e':val4 m0 m1 m2 m3=0:=e
  rw [invF_none (Or.inl e')]
  exact ⟨limb00,by unfold okF; simp [e'],trivial⟩
 have e':val4 m0 m1 m2 m3≠0:=e
 rintro v2 rfl
 refine brE (fun c3=>⟨⟨ha0,ha1,ha2,ha3,hm0,hm1,hm2,hm3,?_⟩,fun v4 h4 v5 h5=>⟨limb_eq h4,h5,trivial⟩⟩) fun c3=>?_
 ·have:=hm0.1
  rw [Int.tmod_eq_emod_of_nonneg this] at c3; exact c3
 refine ⟨⟨ha0,ha1,ha2,ha3,U64_0,U64_0,U64_0,U64_0,hm0,hm1,hm2,hm3⟩,fun v6 h6=>⟨⟨U64_1,U64_0,U64_0,U64_0,U64_0,U64_0,U64_0,U64_0,hm0,hm1,hm2,hm3⟩,fun v7 h7=>⟨⟨(val4 m0 m1 m2 m3,v6,0,v7),?_,⟨trivial,trivial,trivial,rfl,trivial,trivial,trivial,trivial,trivial⟩,t4,t4,t4,⟨lm.1.symm,lm.2.1.symm,lm.2.2.1.symm,lm.2.2.2.symm,trivial⟩,t4,⟨(limb0 0).symm,(limb0 1).symm,(limb0 2).symm,(limb0 3).symm,trivial⟩,t4,trivial⟩,fun ⟨r,s,x,y⟩ hp v10 h10=>?_⟩⟩⟩
 ·rw [rF_mod] at h6 h7
  unfold modF at h6 h7
  rw [if_neg e'] at h6 h7
  rw [h6,h7]
  exact inv_start (by omega)
 dsimp only at hp h10 ⊢
 have hp':=hp
 obtain ⟨hm,⟨s0,sr,rm⟩,⟨x0,x1⟩,⟨y0,y1⟩,ux,uy,g⟩:=hp'
 rw [eq4l (by omega) (by omega) U64_0 U64_0 U64_0 U64_0] at h10
 refine brnd (fun e6=>?_) (fun e6 v18 h18=>?_) v10 h10
 rotate_left
 ·have e6:s=0:=e6
  rw [eq4l (by omega) (by omega) U64_1 U64_0 U64_0 U64_0] at h18
  subst e6
  rw [Int.gcd_zero_right] at g
  refine brnd (fun e7=>?_) (fun e7=>?_) v18 h18
  ·have e7:r≠1:=e7
   have e8:Int.gcd (val4 a0 a1 a2 a3) (val4 m0 m1 m2 m3)≠1:=by omega
   rw [invF_none (Or.inr e8)]
   exact ⟨limb00,by unfold okF; simp [e8],trivial⟩
  ·have e7:r=1:=e7
   subst e7
   rw [invF_eq x0 x1 ux]
   exact ⟨limb_eq rfl,by unfold okF; rw [← g]; simp [e'],trivial⟩
 have e6:s≠0:=e6
 have q0:0<=r/s:=Int.ediv_nonneg (by omega) (by omega)
 have q1:r/s<=r:=Int.ediv_le_self _ (by omega)
 refine ⟨⟨L ..,L ..,L ..,L ..,U64_0,U64_0,U64_0,U64_0,L ..,L ..,L ..,L ..⟩,fun v11 h11 v12 h12 v13 h13 v14 h14=>⟨⟨L ..,L ..,L ..,L ..,L ..,L ..,L ..,L ..,hm0,hm1,hm2,hm3⟩,fun v15 h15=>⟨⟨L ..,L ..,L ..,L ..,L ..,L ..,L ..,L ..,hm0,hm1,hm2,hm3⟩,fun v16 h16=>?_⟩⟩⟩
 have st:=inv_step hp e6
 have t0:=st.2.2.2.1
 have n12:0<=r/s*y%val4 m0 m1 m2 m3:=Int.emod_nonneg _ e'
 have l12:=Int.emod_lt_of_pos (r/s*y) (show 0<val4 m0 m1 m2 m3 by omega)
 rw [val4_limb' (x:=r) (by omega) (by omega),val4_limb' (x:=s) (by omega) (by omega)] at h11 h13
 unfold qF at h11
 unfold rF at h13
 rw [if_neg e6] at h11 h13
 rw [Int.zero_mul,Int.zero_add] at h11 h13
 unfold modF at h15 h16
 rw [if_neg e'] at h15 h16
 rw [h11,val4_limb' (x:=r/s) (by omega) (by omega),val4_limb' (x:=y) (by omega) (by omega)] at h15
 rw [h15,val4_limb' (x:=x) (by omega) (by omega),val4_limb' (by omega) (by omega)] at h16
 refine ⟨(s,v13,y,v16),?_,⟨⟨trivial,trivial,trivial,rfl,trivial,trivial,trivial,trivial,trivial⟩,t4,t4,t4,t4,t4,t4,t4,trivial⟩,?_⟩
 ·rw [h13,h16]; exact st
 ·have:=st.2.1
  dsimp only
  rw [h13]; omega
theorem r2Inv_ok:SpecOk Tryz.prog 56 r2InvSpec:=by
 intro args k h
 unfold r2InvSpec at h
 split at h
 ·rename_i a0 a1 a2 a3 m0 m1 m2 m3
  obtain ⟨hr,h⟩:=h
  exact ⟨_,h _ rfl _ rfl,PureOk.of_tie (GL Tryz.prog ref6Spec rInvAnnSpec rInvCutSpec) (fun w__=>gokL w__ namesOk_ mixed_ ref6_ok) (fun _=>rfl) (fun _=>rfl) (args':=[.agg [.int .u64 (.sym a0.val),.int .u64 (.sym a1.val),.int .u64 (.sym a2.val),.int .u64 (.sym a3.val)],.agg [.int .u64 (.sym m0.val),.int .u64 (.sym m1.val),.int .u64 (.sym m2.val),.int .u64 (.sym m3.val)]]) ⟨⟨⟨rfl,rfl⟩,⟨rfl,rfl⟩,⟨rfl,rfl⟩,⟨rfl,rfl⟩,trivial⟩,⟨⟨rfl,rfl⟩,⟨rfl,rfl⟩,⟨rfl,rfl⟩,⟨rfl,rfl⟩,trivial⟩,trivial⟩ 40 (fun w__=>VCR2Inv a0.val a1.val a2.val a3.val m0.val m1.val m2.val m3.val) (fun w__=>tieR2Inv w__ a0.val a1.val a2.val a3.val m0.val m1.val m2.val m3.val) (fun w__=>pureR2Inv a0.val a1.val a2.val a3.val m0.val m1.val m2.val m3.val hr)⟩
 ·exact h.elim

end Go.Proofs.YtaaobpalpcdlbaaGreat.Bits
