import Derived.Test.YtaaobpalpcdlbaaGreatSxR
import Derived.Test.YtaaobpalpcdlbaaGreatProg
import Derived.Test.YtaaobpalpcdlbaaGreatRef1
import Derived.Test.YtaaobpalpcdlbaaGreatNum10
import Derived.Test.YtaaobpalpcdlbaaGreatInv1
import Derived.KernelRfl
namespace Go.Proofs.YtaaobpalpcdlbaaGreat.Bits
open Go Go.Sx Go.RowKit
set_option linter.unusedVariables false
set_option maxRecDepth 100000
def rremSpec:List (FuncId×CSpec):=[(90,rDivSpec),(91,rAddSpec),(92,tailSpec)]
theorem rrem_ok:SpecsOk Tryz.prog rremSpec:=⟨rDiv_ok,rAdd_ok,tail_ok,trivial⟩
theorem or_comm2 (x y:Int):bitI .or .u64 x y=bitI .or .u64 y x:=by rw [bit_or,bit_or,Nat.or_comm]
theorem shr1 (x:Int) (j:Nat) (a b c:Int) (ha:a=shrI .u64 (limb x j) 1) (hb:b=shlI .u64 (limb x (j+1)) 63) (hc:c=bitI .or .u64 a b):c=limb (x/2) j:=by
 have p:(0:Int)<2^(64*j):=Int.pow_pos (by omega)
 have e1:limb x j=x/2^(64*j)%18446744073709551616:=rfl
 have e2:limb x (j+1)=x/2^(64*j)/18446744073709551616%18446744073709551616:=by
  unfold limb
  rw [Int.ediv_ediv_of_nonneg (by omega),show (18446744073709551616:Int)=2^64 from rfl,← Int.pow_add]; congr 3
 have e3:limb (x/2) j=x/2^(64*j)/2%18446744073709551616:=by
  unfold limb
  rw [Int.ediv_ediv_of_nonneg (by omega),Int.ediv_ediv_of_nonneg (by omega),Int.mul_comm 2]
 rw [e3]
 rw [e1] at ha
 rw [e2] at hb
 generalize x/2^(64*j)=y at *
 rw [shrN .u64 _ 1 1 2] at ha
 rw [shlN .u64 _ 63 63 9223372036854775808,w_u64] at hb
 rw [hc,or_comm2,hb,ha]
 have e4:y/18446744073709551616%18446744073709551616*9223372036854775808%18446744073709551616=(y/18446744073709551616%2)*2^(63:Nat):=by
  rw [show (2:Int)^(63:Nat)=9223372036854775808 from rfl]; omega
 have e63:(2:Int)^(63:Nat)=9223372036854775808:=rfl
 rw [e4,or_parts_u64 (by omega) (by omega) (by rw [e63]; omega) (by rw [e63]; omega) (by rw [e63]; omega) (by omega),e63]
 omega
theorem shr1_top {x:Int} (h0:0<=x) (h1:x<115792089237316195423570985008687907853269984665640564039457584007913129639936) (a:Int) (ha:a=shrI .u64 (limb x 3) 1):a=limb (x/2) 3:=by
 obtain ⟨_,_,_,e3⟩:=limbE x
 obtain ⟨_,_,_,q3⟩:=limbE (x/2)
 rw [ha,shrN .u64 _ 1 1 2,e3,q3]
 omega
def rRemSpec:CSpec
 | [.agg [.int .u64 lo0,.int .u64 lo1,.int .u64 lo2,.int .u64 lo3],.agg [.int .u64 hi0,.int .u64 hi1,.int .u64 hi2,.int .u64 hi3],.agg [.int .u64 m0,.int .u64 m1,.int .u64 m2,.int .u64 m3]],k=>((U64 lo0.val)/\(U64 lo1.val)/\(U64 lo2.val)/\(U64 lo3.val)/\(U64 hi0.val)/\(U64 hi1.val)/\(U64 hi2.val)/\(U64 hi3.val)/\(U64 m0.val)/\(U64 m1.val)/\(U64 m2.val)/\(U64 m3.val))/\(∀ r0:Int,r0=(rF (val4 lo0.val lo1.val lo2.val lo3.val) (val4 hi0.val hi1.val hi2.val hi3.val) (val4 m0.val m1.val m2.val m3.val))->k (.agg [.int .u64 (.sym (limb r0 0)),.int .u64 (.sym (limb r0 1)),.int .u64 (.sym (limb r0 2)),.int .u64 (.sym (limb r0 3))]))
 | _,_=>False
def VCRRem (lo0:Int) (lo1:Int) (lo2:Int) (lo3:Int) (hi0:Int) (hi1:Int) (hi2:Int) (hi3:Int) (m0:Int) (m1:Int) (m2:Int) (m3:Int):Prop :=
 ∀ v1,v1=(m0==(0:Int)&&(m1==(0:Int)&&(m2==(0:Int)&&(m3==(0:Int)&&true))))->(v1=true->(IntKind.u64=IntKind.u64/\0=limb (rF (val4 lo0 lo1 lo2 lo3) (val4 hi0 hi1 hi2 hi3) (val4 m0 m1 m2 m3)) 0)/\(IntKind.u64=IntKind.u64/\0=limb (rF (val4 lo0 lo1 lo2 lo3) (val4 hi0 hi1 hi2 hi3) (val4 m0 m1 m2 m3)) 1)/\(IntKind.u64=IntKind.u64/\0=limb (rF (val4 lo0 lo1 lo2 lo3) (val4 hi0 hi1 hi2 hi3) (val4 m0 m1 m2 m3)) 2)/\(IntKind.u64=IntKind.u64/\0=limb (rF (val4 lo0 lo1 lo2 lo3) (val4 hi0 hi1 hi2 hi3) (val4 m0 m1 m2 m3)) 3)/\True)/\(v1=false->∀ v2,v2=shrI IntKind.u64 m3 (62:Int)->∀ v3,v3=(v2==(0:Int))->(v3=true->(U64 lo0/\U64 lo1/\U64 lo2/\U64 lo3/\U64 hi0/\U64 hi1/\U64 hi2/\U64 hi3/\U64 m0/\U64 m1/\U64 m2/\U64 m3)/\∀ v4,v4=qF (val4 lo0 lo1 lo2 lo3) (val4 hi0 hi1 hi2 hi3) (val4 m0 m1 m2 m3)->∀ v5,v5=qF (val4 lo0 lo1 lo2 lo3) (val4 hi0 hi1 hi2 hi3) (val4 m0 m1 m2 m3)/(115792089237316195423570985008687907853269984665640564039457584007913129639936:Int)->∀ v6,v6=rF (val4 lo0 lo1 lo2 lo3) (val4 hi0 hi1 hi2 hi3) (val4 m0 m1 m2 m3)->∀ (v7:Int),(v7=if val4 m0 m1 m2 m3=(0:Int) then (13:Int) else (0:Int))->(IntKind.u64=IntKind.u64/\limb v6 0=limb (rF (val4 lo0 lo1 lo2 lo3) (val4 hi0 hi1 hi2 hi3) (val4 m0 m1 m2 m3)) 0)/\(IntKind.u64=IntKind.u64/\limb v6 1=limb (rF (val4 lo0 lo1 lo2 lo3) (val4 hi0 hi1 hi2 hi3) (val4 m0 m1 m2 m3)) 1)/\(IntKind.u64=IntKind.u64/\limb v6 2=limb (rF (val4 lo0 lo1 lo2 lo3) (val4 hi0 hi1 hi2 hi3) (val4 m0 m1 m2 m3)) 2)/\(IntKind.u64=IntKind.u64/\limb v6 3=limb (rF (val4 lo0 lo1 lo2 lo3) (val4 hi0 hi1 hi2 hi3) (val4 m0 m1 m2 m3)) 3)/\True)/\(v3=false->∀ v8,v8=shrI IntKind.u64 m3 (63:Int)->∀ v9,v9=(v8==(0:Int))->(v9=true->(U64 lo0/\U64 lo1/\U64 lo2/\U64 lo3/\U64 lo0/\U64 lo1/\U64 lo2/\U64 lo3)/\∀ v10,v10=val4 lo0 lo1 lo2 lo3+val4 lo0 lo1 lo2 lo3->∀ v11,v11=(val4 lo0 lo1 lo2 lo3+val4 lo0 lo1 lo2 lo3)/(115792089237316195423570985008687907853269984665640564039457584007913129639936:Int)->(U64 hi0/\U64 hi1/\U64 hi2/\U64 hi3/\U64 hi0/\U64 hi1/\U64 hi2/\U64 hi3)/\∀ v12,v12=val4 hi0 hi1 hi2 hi3+val4 hi0 hi1 hi2 hi3->∀ v13,v13=(val4 hi0 hi1 hi2 hi3+val4 hi0 hi1 hi2 hi3)/(115792089237316195423570985008687907853269984665640564039457584007913129639936:Int)->∀ v14,v14=bitI BinOp.or IntKind.u64 (limb v12 0) v11->(U64 m0/\U64 m1/\U64 m2/\U64 m3/\U64 m0/\U64 m1/\U64 m2/\U64 m3)/\∀ v15,v15=val4 m0 m1 m2 m3+val4 m0 m1 m2 m3->∀ v16,v16=(val4 m0 m1 m2 m3+val4 m0 m1 m2 m3)/(115792089237316195423570985008687907853269984665640564039457584007913129639936:Int)->(U64 (limb v10 0)/\U64 (limb v10 1)/\U64 (limb v10 2)/\U64 (limb v10 3)/\U64 v14/\U64 (limb v12 1)/\U64 (limb v12 2)/\U64 (limb v12 3)/\U64 v13/\U64 (limb v15 0)/\U64 (limb v15 1)/\U64 (limb v15 2)/\U64 (limb v15 3)/\(9223372036854775808:Int)<=limb v15 3/\val4 (limb v12 1) (limb v12 2) (limb v12 3) v13<val4 (limb v15 0) (limb v15 1) (limb v15 2) (limb v15 3))/\∀ v17,v17=modF (val8 (limb v10 0) (limb v10 1) (limb v10 2) (limb v10 3) v14 (limb v12 1) (limb v12 2) (limb v12 3)+v13*(13407807929942597099574024998205846127479365820592393377723561443721764030073546976801874298166903427690031858186486050853753882811946569946433649006084096:Int)) (val4 (limb v15 0) (limb v15 1) (limb v15 2) (limb v15 3))->∀ v18,v18=shrI IntKind.u64 (limb v17 0) (1:Int)->∀ v19,v19=shlI IntKind.u64 (limb v17 1) (63:Int)->∀ v20,v20=bitI BinOp.or IntKind.u64 v18 v19->∀ v21,v21=shrI IntKind.u64 (limb v17 1) (1:Int)->∀ v22,v22=shlI IntKind.u64 (limb v17 2) (63:Int)->∀ v23,v23=bitI BinOp.or IntKind.u64 v21 v22->∀ v24,v24=shrI IntKind.u64 (limb v17 2) (1:Int)->∀ v25,v25=shlI IntKind.u64 (limb v17 3) (63:Int)->∀ v26,v26=bitI BinOp.or IntKind.u64 v24 v25->∀ v27,v27=shrI IntKind.u64 (limb v17 3) (1:Int)->(IntKind.u64=IntKind.u64/\v20=limb (rF (val4 lo0 lo1 lo2 lo3) (val4 hi0 hi1 hi2 hi3) (val4 m0 m1 m2 m3)) 0)/\(IntKind.u64=IntKind.u64/\v23=limb (rF (val4 lo0 lo1 lo2 lo3) (val4 hi0 hi1 hi2 hi3) (val4 m0 m1 m2 m3)) 1)/\(IntKind.u64=IntKind.u64/\v26=limb (rF (val4 lo0 lo1 lo2 lo3) (val4 hi0 hi1 hi2 hi3) (val4 m0 m1 m2 m3)) 2)/\(IntKind.u64=IntKind.u64/\v27=limb (rF (val4 lo0 lo1 lo2 lo3) (val4 hi0 hi1 hi2 hi3) (val4 m0 m1 m2 m3)) 3)/\True)/\(v9=false->(U64 lo0/\U64 lo1/\U64 lo2/\U64 lo3/\U64 hi0/\U64 hi1/\U64 hi2/\U64 hi3/\U64 0/\U64 m0/\U64 m1/\U64 m2/\U64 m3/\(9223372036854775808:Int)<=m3/\val4 hi1 hi2 hi3 0<val4 m0 m1 m2 m3)/\∀ v28,v28=modF (val8 lo0 lo1 lo2 lo3 hi0 hi1 hi2 hi3+(0:Int)) (val4 m0 m1 m2 m3)->(IntKind.u64=IntKind.u64/\limb v28 0=limb (rF (val4 lo0 lo1 lo2 lo3) (val4 hi0 hi1 hi2 hi3) (val4 m0 m1 m2 m3)) 0)/\(IntKind.u64=IntKind.u64/\limb v28 1=limb (rF (val4 lo0 lo1 lo2 lo3) (val4 hi0 hi1 hi2 hi3) (val4 m0 m1 m2 m3)) 1)/\(IntKind.u64=IntKind.u64/\limb v28 2=limb (rF (val4 lo0 lo1 lo2 lo3) (val4 hi0 hi1 hi2 hi3) (val4 m0 m1 m2 m3)) 2)/\(IntKind.u64=IntKind.u64/\limb v28 3=limb (rF (val4 lo0 lo1 lo2 lo3) (val4 hi0 hi1 hi2 hi3) (val4 m0 m1 m2 m3)) 3)/\True)))
theorem tieRRem (w0:World) (lo0:Int) (lo1:Int) (lo2:Int) (lo3:Int) (hi0:Int) (hi1:Int) (hi2:Int) (hi3:Int) (m0:Int) (m1:Int) (m2:Int) (m3:Int):VCRRem lo0 lo1 lo2 lo3 hi0 hi1 hi2 hi3 m0 m1 m2 m3=((recN (GC Tryz.prog rremSpec w0) 40).call 59 [.agg [.int .u64 (.sym lo0),.int .u64 (.sym lo1),.int .u64 (.sym lo2),.int .u64 (.sym lo3)],.agg [.int .u64 (.sym hi0),.int .u64 (.sym hi1),.int .u64 (.sym hi2),.int .u64 (.sym hi3)],.agg [.int .u64 (.sym m0),.int .u64 (.sym m1),.int .u64 (.sym m2),.int .u64 (.sym m3)]] [] (fun r__ _=>eqV r__ (.agg [.int .u64 (.sym (limb (rF (val4 lo0 lo1 lo2 lo3) (val4 hi0 hi1 hi2 hi3) (val4 m0 m1 m2 m3)) 0)),.int .u64 (.sym (limb (rF (val4 lo0 lo1 lo2 lo3) (val4 hi0 hi1 hi2 hi3) (val4 m0 m1 m2 m3)) 1)),.int .u64 (.sym (limb (rF (val4 lo0 lo1 lo2 lo3) (val4 hi0 hi1 hi2 hi3) (val4 m0 m1 m2 m3)) 2)),.int .u64 (.sym (limb (rF (val4 lo0 lo1 lo2 lo3) (val4 hi0 hi1 hi2 hi3) (val4 m0 m1 m2 m3)) 3))]))):=by kernel_rfl
theorem pureRRem (lo0 lo1 lo2 lo3 hi0 hi1 hi2 hi3 m0 m1 m2 m3:Int) (h:U64 lo0/\U64 lo1/\U64 lo2/\U64 lo3/\U64 hi0/\U64 hi1/\U64 hi2/\U64 hi3/\U64 m0/\U64 m1/\U64 m2/\U64 m3):VCRRem lo0 lo1 lo2 lo3 hi0 hi1 hi2 hi3 m0 m1 m2 m3:=by
 obtain ⟨hl0,hl1,hl2,hl3,hh0,hh1,hh2,hh3,hm0,hm1,hm2,hm3⟩:=h
 have bm:=val4_lt hm0 hm1 hm2 hm3
 have bl:=val4_lt hl0 hl1 hl2 hl3
 have bh:=val4_lt hh0 hh1 hh2 hh3
 have L:∀ x j,U64 (limb x j):=limb_in
 intro v1 h1
 rw [eq4 hm0 hm1 hm2 hm3 U64_0 U64_0 U64_0 U64_0] at h1
 refine br (fun e=>?_) (fun e=>?_) v1 h1
 ·have e:val4 m0 m1 m2 m3=0:=e
  have r0:rF (val4 lo0 lo1 lo2 lo3) (val4 hi0 hi1 hi2 hi3) (val4 m0 m1 m2 m3)=0:=by unfold rF; rw [if_pos e]
  rw [r0]; exact limb00
 have hM:val4 m0 m1 m2 m3≠0:=e
 have hM0:0<val4 m0 m1 m2 m3:=by omega
 have hm3':0<=m3/\m3<=18446744073709551615:=hm3
 intro v2 h2
 rw [shrN .u64 m3 62 62 4611686018427387904] at h2
 refine brE (fun c2=>?_) fun c2=>?_
 ·refine ⟨⟨hl0,hl1,hl2,hl3,hh0,hh1,hh2,hh3,hm0,hm1,hm2,hm3⟩,fun v4 h4 v5 h5 v6 h6 v7 h7=>limb_eq h6⟩
 intro v8 h8
 rw [shrN .u64 m3 63 63 9223372036854775808] at h8
 have hN:val8 lo0 lo1 lo2 lo3 hi0 hi1 hi2 hi3=val4 hi0 hi1 hi2 hi3*115792089237316195423570985008687907853269984665640564039457584007913129639936+val4 lo0 lo1 lo2 lo3:=by unfold val8; omega
 have hrF:rF (val4 lo0 lo1 lo2 lo3) (val4 hi0 hi1 hi2 hi3) (val4 m0 m1 m2 m3)=val8 lo0 lo1 lo2 lo3 hi0 hi1 hi2 hi3%val4 m0 m1 m2 m3:=by unfold rF; rw [if_neg hM,hN]
 refine brE (fun c8=>?_) fun c8=>?_
 ·refine ⟨⟨hl0,hl1,hl2,hl3,hl0,hl1,hl2,hl3⟩,fun v10 h10 v11 h11=>⟨⟨hh0,hh1,hh2,hh3,hh0,hh1,hh2,hh3⟩,fun v12 h12 v13 h13 v14 h14=>⟨⟨hm0,hm1,hm2,hm3,hm0,hm1,hm2,hm3⟩,fun v15 h15 v16 h16=>?_⟩⟩⟩
  obtain ⟨o1,o2,o3⟩:=rd_low (b:=v11) h12 bh (by omega) rfl
  rw [o1] at h14
  rw [← h14] at o2 o3
  have l10:=val4_limb v10
  have l15:val4 (limb v15 0) (limb v15 1) (limb v15 2) (limb v15 3)=v15:=val4_limb' (by omega) (by unfold val4 at h15; unfold val4 at bm; omega)
  have t15:9223372036854775808<=limb v15 3:=by
   obtain ⟨_,_,_,e3⟩:=limbE v15
   rw [e3,h15]
   unfold val4; unfold U64 at hm0 hm1 hm2; omega
  have v15b:v15<115792089237316195423570985008687907853269984665640564039457584007913129639936:=by rw [h15]; unfold val4; unfold U64 at hm0 hm1 hm2; omega
  have u13:U64 v13:=by unfold U64; omega
  have top:val4 (limb v12 1) (limb v12 2) (limb v12 3) v13<val4 (limb v15 0) (limb v15 1) (limb v15 2) (limb v15 3):=by
   have a:=(L v12 1).2; have b:=(L v12 2).2; have c:=(L v12 3).2
   have d:=(L v15 0).1; have e:=(L v15 1).1; have f:=(L v15 2).1
   unfold val4
   omega
  refine ⟨⟨L ..,L ..,L ..,L ..,o2,L ..,L ..,L ..,u13,L ..,L ..,L ..,L ..,t15,top⟩,fun v17 h17=>?_⟩
  have e17:v17=2*rF (val4 lo0 lo1 lo2 lo3) (val4 hi0 hi1 hi2 hi3) (val4 m0 m1 m2 m3):=by
   rw [h17,l15]
   have hs:val8 (limb v10 0) (limb v10 1) (limb v10 2) (limb v10 3) v14 (limb v12 1) (limb v12 2) (limb v12 3)+v13*13407807929942597099574024998205846127479365820592393377723561443721764030073546976801874298166903427690031858186486050853753882811946569946433649006084096=2*val8 lo0 lo1 lo2 lo3 hi0 hi1 hi2 hi3:=by
    have e8:val8 (limb v10 0) (limb v10 1) (limb v10 2) (limb v10 3) v14 (limb v12 1) (limb v12 2) (limb v12 3)=val4 (limb v10 0) (limb v10 1) (limb v10 2) (limb v10 3)+val4 v14 (limb v12 1) (limb v12 2) (limb v12 3)*115792089237316195423570985008687907853269984665640564039457584007913129639936:=rfl
    rw [e8,l10,o3,hN]
    omega
   rw [hs,hrF]
   unfold modF
   rw [if_neg (by omega),h15,show val4 m0 m1 m2 m3+val4 m0 m1 m2 m3=2*val4 m0 m1 m2 m3 by omega,Int.mul_emod_mul_of_pos _ _ (by omega)]
  have hr0:0<=rF (val4 lo0 lo1 lo2 lo3) (val4 hi0 hi1 hi2 hi3) (val4 m0 m1 m2 m3)/\rF (val4 lo0 lo1 lo2 lo3) (val4 hi0 hi1 hi2 hi3) (val4 m0 m1 m2 m3)<val4 m0 m1 m2 m3:=by
   rw [hrF]; exact ⟨Int.emod_nonneg _ hM,Int.emod_lt_of_pos _ hM0⟩
  have eh:v17/2=rF (val4 lo0 lo1 lo2 lo3) (val4 hi0 hi1 hi2 hi3) (val4 m0 m1 m2 m3):=by omega
  intro v18 h18 v19 h19 v20 h20 v21 h21 v22 h22 v23 h23 v24 h24 v25 h25 v26 h26 v27 h27
  rw [← eh]
  exact ⟨⟨rfl,shr1 v17 0 v18 v19 v20 h18 h19 h20⟩,⟨rfl,shr1 v17 1 v21 v22 v23 h21 h22 h23⟩,⟨rfl,shr1 v17 2 v24 v25 v26 h24 h25 h26⟩,⟨rfl,shr1_top (by omega) (by omega) v27 h27⟩,trivial⟩
 ·have n0:U64 (0:Int):=U64_0
  refine ⟨⟨hl0,hl1,hl2,hl3,hh0,hh1,hh2,hh3,n0,hm0,hm1,hm2,hm3,by omega,?_⟩,fun v28 h28=>limb_eq ?_⟩
  ·unfold val4; unfold U64 at *; omega
  ·rw [h28,hrF]; unfold modF; rw [if_neg hM,Int.add_zero]
theorem rRem_ok:SpecOk Tryz.prog 59 rRemSpec:=by
 intro args k h
 unfold rRemSpec at h
 split at h
 ·rename_i lo0 lo1 lo2 lo3 hi0 hi1 hi2 hi3 m0 m1 m2 m3
  obtain ⟨hr,h⟩:=h
  exact ⟨_,h _ rfl,PureOk.of_tie (GC Tryz.prog rremSpec) (fun w__=>gok w__ namesOk_ mixed_ rrem_ok) (fun _=>rfl) (fun _=>rfl) (args':=[.agg [.int .u64 (.sym lo0.val),.int .u64 (.sym lo1.val),.int .u64 (.sym lo2.val),.int .u64 (.sym lo3.val)],.agg [.int .u64 (.sym hi0.val),.int .u64 (.sym hi1.val),.int .u64 (.sym hi2.val),.int .u64 (.sym hi3.val)],.agg [.int .u64 (.sym m0.val),.int .u64 (.sym m1.val),.int .u64 (.sym m2.val),.int .u64 (.sym m3.val)]]) ⟨⟨⟨rfl,rfl⟩,⟨rfl,rfl⟩,⟨rfl,rfl⟩,⟨rfl,rfl⟩,trivial⟩,⟨⟨rfl,rfl⟩,⟨rfl,rfl⟩,⟨rfl,rfl⟩,⟨rfl,rfl⟩,trivial⟩,⟨⟨rfl,rfl⟩,⟨rfl,rfl⟩,⟨rfl,rfl⟩,⟨rfl,rfl⟩,trivial⟩,trivial⟩ 40 (fun w__=>VCRRem lo0.val lo1.val lo2.val lo3.val hi0.val hi1.val hi2.val hi3.val m0.val m1.val m2.val m3.val) (fun w__=>tieRRem w__ lo0.val lo1.val lo2.val lo3.val hi0.val hi1.val hi2.val hi3.val m0.val m1.val m2.val m3.val) (fun w__=>pureRRem lo0.val lo1.val lo2.val lo3.val hi0.val hi1.val hi2.val hi3.val m0.val m1.val m2.val m3.val hr)⟩
 ·exact h.elim

end Go.Proofs.YtaaobpalpcdlbaaGreat.Bits
