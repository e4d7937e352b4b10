import Derived.Test.YtaaobpalpcdlbaaGreatSxR
import Derived.Test.YtaaobpalpcdlbaaGreatProg
import Derived.Test.YtaaobpalpcdlbaaGreatDv4
import Derived.KernelRfl
namespace Go.Proofs.YtaaobpalpcdlbaaGreat.Bits
open Go Go.Sx Go.RowKit
set_option linter.unusedVariables false
set_option maxRecDepth 100000
def modF (x m:Int):Int:=if m=0 then 0 else x%m
def md1Spec:List (FuncId×CSpec):=[(85,divSpec),(63,cmpSpec),(94,addSpec),(95,subSpec),(109,mulSpec)]
theorem md1_ok:SpecsOk Tryz.prog md1Spec:=⟨div_ok,cmp_ok,add_ok,sub_ok,mul_ok,trivial⟩
def remSpec:CSpec
 | [.agg [.int .u64 lo0,.int .u64 lo1,.int .u64 lo2,.int .u64 lo3],.agg [.int .u64 hi0,.int .u64 hi1,.int .u64 hi2,.int .u64 hi3],.agg [.int .u64 m0,.int .u64 m1,.int .u64 m2,.int .u64 m3]],k=>((U64 lo0.val)/\(U64 lo1.val)/\(U64 lo2.val)/\(U64 lo3.val)/\(U64 hi0.val)/\(U64 hi1.val)/\(U64 hi2.val)/\(U64 hi3.val)/\(U64 m0.val)/\(U64 m1.val)/\(U64 m2.val)/\(U64 m3.val))/\(∀ r0:Int,r0=(rF (val4 lo0.val lo1.val lo2.val lo3.val) (val4 hi0.val hi1.val hi2.val hi3.val) (val4 m0.val m1.val m2.val m3.val))->k (.agg [.int .u64 (.sym (limb r0 0)),.int .u64 (.sym (limb r0 1)),.int .u64 (.sym (limb r0 2)),.int .u64 (.sym (limb r0 3))]))
 | _,_=>False
def VCRem (lo0:Int) (lo1:Int) (lo2:Int) (lo3:Int) (hi0:Int) (hi1:Int) (hi2:Int) (hi3:Int) (m0:Int) (m1:Int) (m2:Int) (m3:Int):Prop :=
 (U64 lo0/\U64 lo1/\U64 lo2/\U64 lo3/\U64 hi0/\U64 hi1/\U64 hi2/\U64 hi3/\U64 m0/\U64 m1/\U64 m2/\U64 m3)/\∀ v1,v1=qF (val4 lo0 lo1 lo2 lo3) (val4 hi0 hi1 hi2 hi3) (val4 m0 m1 m2 m3)->∀ v2,v2=qF (val4 lo0 lo1 lo2 lo3) (val4 hi0 hi1 hi2 hi3) (val4 m0 m1 m2 m3)/(115792089237316195423570985008687907853269984665640564039457584007913129639936:Int)->∀ v3,v3=rF (val4 lo0 lo1 lo2 lo3) (val4 hi0 hi1 hi2 hi3) (val4 m0 m1 m2 m3)->∀ (v4:Int),(v4=if val4 m0 m1 m2 m3=(0:Int) then (13:Int) else (0:Int))->(IntKind.u64=IntKind.u64/\limb v3 0=limb (rF (val4 lo0 lo1 lo2 lo3) (val4 hi0 hi1 hi2 hi3) (val4 m0 m1 m2 m3)) 0)/\(IntKind.u64=IntKind.u64/\limb v3 1=limb (rF (val4 lo0 lo1 lo2 lo3) (val4 hi0 hi1 hi2 hi3) (val4 m0 m1 m2 m3)) 1)/\(IntKind.u64=IntKind.u64/\limb v3 2=limb (rF (val4 lo0 lo1 lo2 lo3) (val4 hi0 hi1 hi2 hi3) (val4 m0 m1 m2 m3)) 2)/\(IntKind.u64=IntKind.u64/\limb v3 3=limb (rF (val4 lo0 lo1 lo2 lo3) (val4 hi0 hi1 hi2 hi3) (val4 m0 m1 m2 m3)) 3)/\True
theorem tieRem (w0:World) (lo0:Int) (lo1:Int) (lo2:Int) (lo3:Int) (hi0:Int) (hi1:Int) (hi2:Int) (hi3:Int) (m0:Int) (m1:Int) (m2:Int) (m3:Int):VCRem lo0 lo1 lo2 lo3 hi0 hi1 hi2 hi3 m0 m1 m2 m3=((recN (GC Tryz.prog md1Spec w0) 30).call 53 [.agg [.int .u64 (.sym lo0),.int .u64 (.sym lo1),.int .u64 (.sym lo2),.int .u64 (.sym lo3)],.agg [.int .u64 (.sym hi0),.int .u64 (.sym hi1),.int .u64 (.sym hi2),.int .u64 (.sym hi3)],.agg [.int .u64 (.sym m0),.int .u64 (.sym m1),.int .u64 (.sym m2),.int .u64 (.sym m3)]] [] (fun r__ _=>eqV r__ (.agg [.int .u64 (.sym (limb (rF (val4 lo0 lo1 lo2 lo3) (val4 hi0 hi1 hi2 hi3) (val4 m0 m1 m2 m3)) 0)),.int .u64 (.sym (limb (rF (val4 lo0 lo1 lo2 lo3) (val4 hi0 hi1 hi2 hi3) (val4 m0 m1 m2 m3)) 1)),.int .u64 (.sym (limb (rF (val4 lo0 lo1 lo2 lo3) (val4 hi0 hi1 hi2 hi3) (val4 m0 m1 m2 m3)) 2)),.int .u64 (.sym (limb (rF (val4 lo0 lo1 lo2 lo3) (val4 hi0 hi1 hi2 hi3) (val4 m0 m1 m2 m3)) 3))]))):=by kernel_rfl
theorem limbE (x:Int):limb x 0=x%18446744073709551616/\limb x 1=x/18446744073709551616%18446744073709551616/\limb x 2=x/340282366920938463463374607431768211456%18446744073709551616/\limb x 3=x/6277101735386680763835789423207666416102355444464034512896%18446744073709551616 :=
 ⟨by unfold limb; simp,rfl,rfl,rfl⟩
theorem val4_limb (x:Int):val4 (limb x 0) (limb x 1) (limb x 2) (limb x 3)=x%115792089237316195423570985008687907853269984665640564039457584007913129639936:=by
 obtain ⟨a,b,c,d⟩:=limbE x
 rw [a,b,c,d]; unfold val4; omega
theorem limb_in (x:Int) (j:Nat):0<=limb x j/\limb x j<=18446744073709551615:=by unfold limb; omega
theorem val4_limb' {x:Int} (h0:0<=x) (h1:x<115792089237316195423570985008687907853269984665640564039457584007913129639936):val4 (limb x 0) (limb x 1) (limb x 2) (limb x 3)=x:=by
 rw [val4_limb]; exact Int.emod_eq_of_lt h0 h1
theorem modF_in {x m:Int} (hm:0<=m):0<=modF x m/\(0<m->modF x m<m)/\modF x m<=m:=by
 unfold modF
 split
 ·omega
 ·have:=Int.emod_nonneg x (show m≠0 by omega)
  have:=Int.emod_lt_of_pos x (show 0<m by omega)
  omega
theorem rF_mod (lo m:Int):rF lo 0 m=modF lo m:=by unfold rF modF; simp
theorem rF_in {lo hi m:Int} (hm:0<=m):0<=rF lo hi m/\rF lo hi m<=m:=by
 have e:rF lo hi m=modF (hi*115792089237316195423570985008687907853269984665640564039457584007913129639936+lo) m:=rfl
 rw [e]; have:=modF_in (x:=hi*115792089237316195423570985008687907853269984665640564039457584007913129639936+lo) hm; omega
theorem pureRem (lo0 lo1 lo2 lo3 hi0 hi1 hi2 hi3 m0 m1 m2 m3:Int) (h:U64 lo0/\U64 lo1/\U64 lo2/\U64 lo3/\U64 hi0/\U64 hi1/\U64 hi2/\U64 hi3/\U64 m0/\U64 m1/\U64 m2/\U64 m3):VCRem lo0 lo1 lo2 lo3 hi0 hi1 hi2 hi3 m0 m1 m2 m3:=by
 refine ⟨h,fun v1 h1 v2 h2 v3 h3 v4 h4=>?_⟩
 rw [h3]
 exact ⟨⟨rfl,rfl⟩,⟨rfl,rfl⟩,⟨rfl,rfl⟩,⟨rfl,rfl⟩,trivial⟩
theorem rem_ok:SpecOk Tryz.prog 53 remSpec:=by
 intro args k h
 unfold remSpec at h
 split at h
 ·rename_i lo0 lo1 lo2 lo3 hi0 hi1 hi2 hi3 m0 m1 m2 m3
  obtain ⟨hr,h⟩:=h
  exact ⟨_,h _ rfl,PureOk.of_tie (GC Tryz.prog md1Spec) (fun w__=>gok w__ namesOk_ mixed_ md1_ok) (fun _=>rfl) (fun _=>rfl) (args':=[.agg [.int .u64 (.sym lo0.val),.int .u64 (.sym lo1.val),.int .u64 (.sym lo2.val),.int .u64 (.sym lo3.val)],.agg [.int .u64 (.sym hi0.val),.int .u64 (.sym hi1.val),.int .u64 (.sym hi2.val),.int .u64 (.sym hi3.val)],.agg [.int .u64 (.sym m0.val),.int .u64 (.sym m1.val),.int .u64 (.sym m2.val),.int .u64 (.sym m3.val)]]) ⟨⟨⟨rfl,rfl⟩,⟨rfl,rfl⟩,⟨rfl,rfl⟩,⟨rfl,rfl⟩,trivial⟩,⟨⟨rfl,rfl⟩,⟨rfl,rfl⟩,⟨rfl,rfl⟩,⟨rfl,rfl⟩,trivial⟩,⟨⟨rfl,rfl⟩,⟨rfl,rfl⟩,⟨rfl,rfl⟩,⟨rfl,rfl⟩,trivial⟩,trivial⟩ 30 (fun w__=>VCRem lo0.val lo1.val lo2.val lo3.val hi0.val hi1.val hi2.val hi3.val m0.val m1.val m2.val m3.val) (fun w__=>tieRem w__ lo0.val lo1.val lo2.val lo3.val hi0.val hi1.val hi2.val hi3.val m0.val m1.val m2.val m3.val) (fun w__=>pureRem lo0.val lo1.val lo2.val lo3.val hi0.val hi1.val hi2.val hi3.val m0.val m1.val m2.val m3.val hr)⟩
 ·exact h.elim

def lowSpec:CSpec
 | [.agg [.int .u64 a0,.int .u64 a1,.int .u64 a2,.int .u64 a3],.agg [.int .u64 m0,.int .u64 m1,.int .u64 m2,.int .u64 m3]],k=>((U64 a0.val)/\(U64 a1.val)/\(U64 a2.val)/\(U64 a3.val)/\(U64 m0.val)/\(U64 m1.val)/\(U64 m2.val)/\(U64 m3.val))/\(∀ r0:Int,r0=(modF (val4 a0.val a1.val a2.val a3.val) (val4 m0.val m1.val m2.val m3.val))->k (.agg [.int .u64 (.sym (limb r0 0)),.int .u64 (.sym (limb r0 1)),.int .u64 (.sym (limb r0 2)),.int .u64 (.sym (limb r0 3))]))
 | _,_=>False
def VCLow (a0:Int) (a1:Int) (a2:Int) (a3:Int) (m0:Int) (m1:Int) (m2:Int) (m3:Int):Prop :=
 (U64 a0/\U64 a1/\U64 a2/\U64 a3/\U64 m0/\U64 m1/\U64 m2/\U64 m3)/\∀ v1,v1=cmpF (val4 a0 a1 a2 a3) (val4 m0 m1 m2 m3)->∀ v2,v2=decide (v1<(0:Int))->(v2=true->(IntKind.u64=IntKind.u64/\a0=limb (modF (val4 a0 a1 a2 a3) (val4 m0 m1 m2 m3)) 0)/\(IntKind.u64=IntKind.u64/\a1=limb (modF (val4 a0 a1 a2 a3) (val4 m0 m1 m2 m3)) 1)/\(IntKind.u64=IntKind.u64/\a2=limb (modF (val4 a0 a1 a2 a3) (val4 m0 m1 m2 m3)) 2)/\(IntKind.u64=IntKind.u64/\a3=limb (modF (val4 a0 a1 a2 a3) (val4 m0 m1 m2 m3)) 3)/\True)/\(v2=false->(U64 a0/\U64 a1/\U64 a2/\U64 a3/\U64 0/\U64 0/\U64 0/\U64 0/\U64 m0/\U64 m1/\U64 m2/\U64 m3)/\∀ v3,v3=qF (val4 a0 a1 a2 a3) (0:Int) (val4 m0 m1 m2 m3)->∀ v4,v4=qF (val4 a0 a1 a2 a3) (0:Int) (val4 m0 m1 m2 m3)/(115792089237316195423570985008687907853269984665640564039457584007913129639936:Int)->∀ v5,v5=rF (val4 a0 a1 a2 a3) (0:Int) (val4 m0 m1 m2 m3)->∀ (v6:Int),(v6=if val4 m0 m1 m2 m3=(0:Int) then (13:Int) else (0:Int))->(IntKind.u64=IntKind.u64/\limb v5 0=limb (modF (val4 a0 a1 a2 a3) (val4 m0 m1 m2 m3)) 0)/\(IntKind.u64=IntKind.u64/\limb v5 1=limb (modF (val4 a0 a1 a2 a3) (val4 m0 m1 m2 m3)) 1)/\(IntKind.u64=IntKind.u64/\limb v5 2=limb (modF (val4 a0 a1 a2 a3) (val4 m0 m1 m2 m3)) 2)/\(IntKind.u64=IntKind.u64/\limb v5 3=limb (modF (val4 a0 a1 a2 a3) (val4 m0 m1 m2 m3)) 3)/\True)
theorem tieLow (w0:World) (a0:Int) (a1:Int) (a2:Int) (a3:Int) (m0:Int) (m1:Int) (m2:Int) (m3:Int):VCLow a0 a1 a2 a3 m0 m1 m2 m3=((recN (GC Tryz.prog md1Spec w0) 30).call 84 [.agg [.int .u64 (.sym a0),.int .u64 (.sym a1),.int .u64 (.sym a2),.int .u64 (.sym a3)],.agg [.int .u64 (.sym m0),.int .u64 (.sym m1),.int .u64 (.sym m2),.int .u64 (.sym m3)]] [] (fun r__ _=>eqV r__ (.agg [.int .u64 (.sym (limb (modF (val4 a0 a1 a2 a3) (val4 m0 m1 m2 m3)) 0)),.int .u64 (.sym (limb (modF (val4 a0 a1 a2 a3) (val4 m0 m1 m2 m3)) 1)),.int .u64 (.sym (limb (modF (val4 a0 a1 a2 a3) (val4 m0 m1 m2 m3)) 2)),.int .u64 (.sym (limb (modF (val4 a0 a1 a2 a3) (val4 m0 m1 m2 m3)) 3))]))):=by kernel_rfl
theorem pureLow (a0 a1 a2 a3 m0 m1 m2 m3:Int) (h:U64 a0/\U64 a1/\U64 a2/\U64 a3/\U64 m0/\U64 m1/\U64 m2/\U64 m3):VCLow a0 a1 a2 a3 m0 m1 m2 m3:=by
 obtain ⟨ha0,ha1,ha2,ha3,hm0,hm1,hm2,hm3⟩:=h
 have ba:=val4_lt ha0 ha1 ha2 ha3
 refine ⟨⟨ha0,ha1,ha2,ha3,hm0,hm1,hm2,hm3⟩,fun v1 h1=>br (fun e=>?_) fun e=>?_⟩
 ·have hlt:val4 a0 a1 a2 a3<val4 m0 m1 m2 m3:=by
   rw [h1] at e; unfold cmpF at e; (repeat' split at e)<;>omega
  have hm:modF (val4 a0 a1 a2 a3) (val4 m0 m1 m2 m3)=val4 a0 a1 a2 a3:=by
   unfold modF; rw [if_neg (by omega)]; exact Int.emod_eq_of_lt ba.1 hlt
  rw [hm]
  obtain ⟨l0,l1,l2,l3⟩:=limbs4' ha0 ha1 ha2 ha3
  exact ⟨⟨rfl,l0.symm⟩,⟨rfl,l1.symm⟩,⟨rfl,l2.symm⟩,⟨rfl,l3.symm⟩,trivial⟩
 ·have n0:0<=(0:Int)/\(0:Int)<=18446744073709551615:=by omega
  refine ⟨⟨ha0,ha1,ha2,ha3,n0,n0,n0,n0,hm0,hm1,hm2,hm3⟩,fun v3 h3 v4 h4 v5 h5 v6 h6=>?_⟩
  rw [h5,rF_mod]
  exact ⟨⟨rfl,rfl⟩,⟨rfl,rfl⟩,⟨rfl,rfl⟩,⟨rfl,rfl⟩,trivial⟩
theorem low_ok:SpecOk Tryz.prog 84 lowSpec:=by
 intro args k h
 unfold lowSpec at h
 split at h
 ·rename_i a0 a1 a2 a3 m0 m1 m2 m3
  obtain ⟨hr,h⟩:=h
  exact ⟨_,h _ rfl,PureOk.of_tie (GC Tryz.prog md1Spec) (fun w__=>gok w__ namesOk_ mixed_ md1_ok) (fun _=>rfl) (fun _=>rfl) (args':=[.agg [.int .u64 (.sym a0.val),.int .u64 (.sym a1.val),.int .u64 (.sym a2.val),.int .u64 (.sym a3.val)],.agg [.int .u64 (.sym m0.val),.int .u64 (.sym m1.val),.int .u64 (.sym m2.val),.int .u64 (.sym m3.val)]]) ⟨⟨⟨rfl,rfl⟩,⟨rfl,rfl⟩,⟨rfl,rfl⟩,⟨rfl,rfl⟩,trivial⟩,⟨⟨rfl,rfl⟩,⟨rfl,rfl⟩,⟨rfl,rfl⟩,⟨rfl,rfl⟩,trivial⟩,trivial⟩ 30 (fun w__=>VCLow a0.val a1.val a2.val a3.val m0.val m1.val m2.val m3.val) (fun w__=>tieLow w__ a0.val a1.val a2.val a3.val m0.val m1.val m2.val m3.val) (fun w__=>pureLow a0.val a1.val a2.val a3.val m0.val m1.val m2.val m3.val hr)⟩
 ·exact h.elim

end Go.Proofs.YtaaobpalpcdlbaaGreat.Bits
