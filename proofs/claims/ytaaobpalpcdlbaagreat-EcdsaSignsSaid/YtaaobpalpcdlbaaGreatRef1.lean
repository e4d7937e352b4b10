import Derived.Test.YtaaobpalpcdlbaaGreatSxR
import Derived.Test.YtaaobpalpcdlbaaGreatProg
import Derived.Test.YtaaobpalpcdlbaaGreatNum11
import Derived.Test.YtaaobpalpcdlbaaGreatQ4
import Derived.KernelRfl
namespace Go.Proofs.YtaaobpalpcdlbaaGreat.Bits
open Go Go.Sx Go.RowKit
set_option linter.unusedVariables false
set_option maxRecDepth 100000
def val9 (f:Int->Int):Int:=val8 (f 0) (f 1) (f 2) (f 3) (f 4) (f 5) (f 6) (f 7)+f 8*13407807929942597099574024998205846127479365820592393377723561443721764030073546976801874298166903427690031858186486050853753882811946569946433649006084096
def win (f:Int->Int) (i:Int):Int:=val5 (f i) (f (i+1)) (f (i+2)) (f (i+3)) (f (i+4))
def in9 (f:Int->Int):Prop:=∀ j,0<=j->j<=8->0<=f j/\f j<=18446744073709551615
def tailR (M N i:Int) (f:Int->Int):Prop :=
 (-1<=i/\i<=4)/\in9 f/\(∀ j,i+5<=j->j<=8->f j=0)/\val4 (f (i+1)) (f (i+2)) (f (i+3)) (f (i+4))<M/\val9 f%M=N%M
def tailBR (M i b0 b:Int) (f g:Int->Int):Prop :=
 (0<=b/\b<=1)/\in9 g/\(∀ j,0<=j->j<=8->j<i\/i+4<j->g j=f j)/\win g i-b*2135987035920910082395021706169552114602704522356652769947041607822219725780640550022962086936576<M /\
  (win g i-b*2135987035920910082395021706169552114602704522356652769947041607822219725780640550022962086936576)%M=(win f i-b0*2135987035920910082395021706169552114602704522356652769947041607822219725780640550022962086936576)%M
def m1AtSpec (S:St):Int:=val4 (hat S 1 0) (hat S 1 1) (hat S 1 2) (hat S 1 3)
def u9AtSpec (S:St):Int:=val8 (hat S 0 0) (hat S 0 1) (hat S 0 2) (hat S 0 3) (hat S 0 4) (hat S 0 5) (hat S 0 6) (hat S 0 7)+hat S 0 8*13407807929942597099574024998205846127479365820592393377723561443721764030073546976801874298166903427690031858186486050853753882811946569946433649006084096
def tailASpec:St->Inv:=fun S =>
 {ι:=Int×(Int->Int)
  T:=fun p=>stS (keepS (setF S 0 9 [.int .u64 p.2]) [2,3,4]) [(5,.int .i64 (.sym p.1))]
  R:=fun p=>tailR (val4 (hat S 1 0) (hat S 1 1) (hat S 1 2) (hat S 1 3)) (val8 (hat S 0 0) (hat S 0 1) (hat S 0 2) (hat S 0 3) (hat S 0 4) (hat S 0 5) (hat S 0 6) (hat S 0 7)+hat S 0 8*13407807929942597099574024998205846127479365820592393377723561443721764030073546976801874298166903427690031858186486050853753882811946569946433649006084096) p.1 p.2
  μ:=fun p=>(p.1+1).toNat }
def tailBSpec:St->Inv:=fun S =>
 {ι:=Int×(Int->Int)
  T:=fun p=>stS (keepS (setF S 0 9 [.int .u64 p.2]) [2,3,4,5]) [(8,.int .u64 (.sym p.1))]
  R:=fun p=>tailBR (val4 (hat S 1 0) (hat S 1 1) (hat S 1 2) (hat S 1 3)) (iat S 5) (iat S 8) p.1 (fat S 0 0) p.2
  μ:=fun p=>(2135987035920910082395021706169552114602704522356652769947041607822219725780640550022962086936576-(win p.2 (iat S 5)-p.1*2135987035920910082395021706169552114602704522356652769947041607822219725780640550022962086936576)).toNat }
def tailQSpec:St->Inv:=fun S =>
 {ι:=Int
  T:=fun q=>stS (keepS S [2,3,4,5]) [(6,.int .u64 (.sym q))]
  R:=fun q=>q=qestF (fat S 0 0 (iat S 5+4)) (fat S 0 0 (iat S 5+3)) (hat S 1 3)
  μ:=fun _=>0 }
def tailAnnSpec:Anns:=[(92,0,tailASpec),(92,4,tailBSpec)]
def tailCutSpec:Anns:=[(92,100026,tailQSpec)]
def tailOrcSpec:List (FuncId×CSpec):=[(114,div64Spec),(115,mul64Spec),(116,add64Spec),(117,sub64Spec)]
theorem tailOrc_ok:SpecsOk Tryz.prog tailOrcSpec:=⟨div64_ok,mul64_ok,add64_ok,sub64_ok,trivial⟩
--@SQUEEZE
theorem in9_upd {F:Int->Int} (h:in9 F) {e w:Int} (hw:0<=w/\w<=18446744073709551615):in9 (updF F e w):=by
 intro j h0 h1
 unfold updF
 split
 ·exact hw
 ·exact h j h0 h1
theorem ldStep {i k:Int} {F:Int->Int} {K:Int->Prop} (hi:0<=i/\i<=4) (hk:0<=k/\k<=4) (h:∀ u,u=F (i+k)->K u) :
  ∀ a':Int,a'=IntKind.i64.wrap (i+k)->((0:Int)<=a'/\a'<9)/\∀ e:Int,e=0+a'*1->((0:Int)<=e/\e<9)/\∀ u:Int,u=F e->K u:=by
 intro a' ha'
 rw [i64_id (by omega) (by omega)] at ha'
 refine ⟨by omega,fun e he=>⟨by omega,fun u hu=>h u ?_⟩⟩
 rw [hu,he,ha']; congr 1; omega
theorem stStep {i k:Int} {F:Int->Int} {a w:Int} {K:(Int->Int)->Prop} (hF:in9 F) (hi:0<=i/\i<=4) (hk:0<=k/\k<=4) (ha:a=IntKind.i64.wrap (i+k)) (hw:0<=w/\w<=18446744073709551615)
  (h:∀ G,in9 G->G (i+k)=w->(∀ j,j≠i+k->G j=F j)->K G) :
  ((0:Int)<=a/\a<9)/\∀ e:Int,e=0+a*1->((0:Int)<=e/\e+1<=9)/\∀ G:Int->Int,G=updF F e w->K G:=by
 rw [i64_id (by omega) (by omega)] at ha
 refine ⟨by omega,fun e he=>⟨by omega,fun G hG=>h G (hG▸in9_upd hF hw) ?_ fun j hj=>?_⟩⟩
 ·rw [hG]; unfold updF; rw [if_pos (by omega)]
 ·rw [hG]; unfold updF; rw [if_neg (by omega)]
theorem tkStep {q d c b i k:Int} {F:Int->Int} {K:Int->Int->(Int->Int)->Prop} (hq:0<=q/\q<=18446744073709551615) (hd:0<=d/\d<=18446744073709551615) (hc:0<=c/\c<=18446744073709551615) (hb:0<=b/\b<=1)
  (hF:in9 F) (hi:0<=i/\i<=4) (hk:0<=k/\k<=4)
  (h:∀ c' w b' G,w-b'*18446744073709551616-c'*18446744073709551616=F (i+k)-b-q*d-c->(0<=c'/\c'<=18446744073709551615)->(0<=w/\w<=18446744073709551615)->(0<=b'/\b'<=1)->in9 G->G (i+k)=w->(∀ j,j≠i+k->G j=F j)->K c' b' G) :
  (U64 q/\U64 d)/\∀ vh:Int,vh=q*d/18446744073709551616->∀ vl:Int,vl=q*d%18446744073709551616->(U64 vl/\U64 c/\(0:Int)<=0/\(0:Int)<=1)/\∀ vs:Int,vs=s64 vl c 0->∀ vc:Int,vc=c64 vl c 0->∀ c':Int,c'=IntKind.u64.wrap (vh+vc) ->
   ∀ a:Int,a=IntKind.i64.wrap (i+k)->∀ a':Int,a'=IntKind.i64.wrap (i+k)->((0:Int)<=a'/\a'<9)/\∀ e:Int,e=0+a'*1->((0:Int)<=e/\e<9)/\∀ u:Int,u=F e ->
   (U64 u/\U64 vs/\0<=b/\b<=1)/\∀ w:Int,w=d64 u vs b->∀ b':Int,b'=b64 u vs b->((0:Int)<=a/\a<9)/\∀ e':Int,e'=0+a*1->((0:Int)<=e'/\e'+1<=9)/\∀ G:Int->Int,G=updF F e' w->K c' b' G:=by
 have fu:=hF (i+k)
 refine ⟨⟨hq,hd⟩,fun vh h1 vl h2=>⟨⟨⟨by omega,by omega⟩,hc,by omega,by omega⟩,fun vs h3 vc h4 c' h5 a ha=>ldStep hi hk fun u hu=>?_⟩⟩
 have ux:0<=u/\u<=18446744073709551615:=by
  rw [hu]
  by_cases z:i+k<=8
  ·exact fu (by omega) z
  ·omega
 have vs0:0<=vs/\vs<=18446744073709551615:=by unfold s64 at h3; omega
 refine ⟨⟨ux,vs0,hb⟩,fun w hw b' hb'=>?_⟩
 obtain ⟨k1,k2,k3,k4,k5⟩:=subW ux vs0 hb.1 hb.2 hw hb'
 obtain ⟨p0,p1⟩:=mul_in hq.1 hq.2 hd.1 hd.2
 refine stStep hF hi hk ha ⟨k2,k3⟩ fun G g1 g2 g3=>h c' w b' G ?_ ?_ ⟨k2,k3⟩ ⟨k4,k5⟩ g1 g2 g3
 all_goals
  rw [← hu] at *
  generalize q*d=P at *
  rw [w_u64] at h5
  unfold s64 at h3
  unfold c64 at h4
  omega
theorem gvStep {d c i k:Int} {F:Int->Int} {K:Int->(Int->Int)->Prop} (hd:0<=d/\d<=18446744073709551615) (hc:0<=c/\c<=1) (hF:in9 F) (hi:0<=i/\i<=4) (hk:0<=k/\k<=4)
  (h:∀ c' w G,w+c'*18446744073709551616=F (i+k)+d+c->(0<=w/\w<=18446744073709551615)->(0<=c'/\c'<=1)->in9 G->G (i+k)=w->(∀ j,j≠i+k->G j=F j)->K c' G) :
  ∀ a:Int,a=IntKind.i64.wrap (i+k)->∀ a':Int,a'=IntKind.i64.wrap (i+k)->((0:Int)<=a'/\a'<9)/\∀ e:Int,e=0+a'*1->((0:Int)<=e/\e<9)/\∀ u:Int,u=F e ->
   (U64 u/\U64 d/\0<=c/\c<=1)/\∀ w:Int,w=s64 u d c->∀ c':Int,c'=c64 u d c->((0:Int)<=a/\a<9)/\∀ e':Int,e'=0+a*1->((0:Int)<=e'/\e'+1<=9)/\∀ G:Int->Int,G=updF F e' w->K c' G:=by
 have fu:=hF (i+k)
 intro a ha
 refine ldStep hi hk fun u hu=>?_
 have ux:0<=u/\u<=18446744073709551615:=by
  rw [hu]
  by_cases z:i+k<=8
  ·exact fu (by omega) z
  ·omega
 refine ⟨⟨ux,hd,hc⟩,fun w hw c' hc'=>?_⟩
 obtain ⟨y0,yl,yh,zl,zh⟩:=addW ux hd hc.1 hc.2 hw hc'
 exact stStep hF hi hk ha ⟨yl,yh⟩ fun G g1 g2 g3=>h c' w G (by rw [← hu]; omega) ⟨yl,yh⟩ ⟨zl,zh⟩ g1 g2 g3
theorem val9_win {f g:Int->Int} {i:Int} (hi:0<=i/\i<=4) (h:∀ j,0<=j->j<=8->j<i\/i+4<j->g j=f j):val9 g=val9 f+(win g i-win f i)*2^(64*i.toNat):=by
 have h0:=h 0 (by omega) (by omega)
 have h1:=h 1 (by omega) (by omega)
 have h2:=h 2 (by omega) (by omega)
 have h3:=h 3 (by omega) (by omega)
 have h4:=h 4 (by omega) (by omega)
 have h5:=h 5 (by omega) (by omega)
 have h6:=h 6 (by omega) (by omega)
 have h7:=h 7 (by omega) (by omega)
 have h8:=h 8 (by omega) (by omega)
 have hc:i=0\/i=1\/i=2\/i=3\/i=4:=by omega
 rcases hc with rfl | rfl | rfl | rfl | rfl
 ·rw [show (64*(0:Int).toNat)=0 from rfl,show (2:Int)^0=1 from rfl]
  have e1:win g 0=val5 (g 0) (g 1) (g 2) (g 3) (g 4):=rfl
  have e2:win f 0=val5 (f 0) (f 1) (f 2) (f 3) (f 4):=rfl
  rw [e1,e2]
  have q5:=h5 (by omega)
  have q6:=h6 (by omega)
  have q7:=h7 (by omega)
  have q8:=h8 (by omega)
  unfold val9 val8 val5 val4
  omega
 ·rw [show (64*(1:Int).toNat)=64 from rfl,show (2:Int)^64=18446744073709551616 from rfl]
  have e1:win g 1=val5 (g 1) (g 2) (g 3) (g 4) (g 5):=rfl
  have e2:win f 1=val5 (f 1) (f 2) (f 3) (f 4) (f 5):=rfl
  rw [e1,e2]
  have q0:=h0 (by omega)
  have q6:=h6 (by omega)
  have q7:=h7 (by omega)
  have q8:=h8 (by omega)
  unfold val9 val8 val5 val4
  omega
 ·rw [show (64*(2:Int).toNat)=128 from rfl,show (2:Int)^128=340282366920938463463374607431768211456 from rfl]
  have e1:win g 2=val5 (g 2) (g 3) (g 4) (g 5) (g 6):=rfl
  have e2:win f 2=val5 (f 2) (f 3) (f 4) (f 5) (f 6):=rfl
  rw [e1,e2]
  have q0:=h0 (by omega)
  have q1:=h1 (by omega)
  have q7:=h7 (by omega)
  have q8:=h8 (by omega)
  unfold val9 val8 val5 val4
  omega
 ·rw [show (64*(3:Int).toNat)=192 from rfl,show (2:Int)^192=6277101735386680763835789423207666416102355444464034512896 from rfl]
  have e1:win g 3=val5 (g 3) (g 4) (g 5) (g 6) (g 7):=rfl
  have e2:win f 3=val5 (f 3) (f 4) (f 5) (f 6) (f 7):=rfl
  rw [e1,e2]
  have q0:=h0 (by omega)
  have q1:=h1 (by omega)
  have q2:=h2 (by omega)
  have q8:=h8 (by omega)
  unfold val9 val8 val5 val4
  omega
 ·rw [show (64*(4:Int).toNat)=256 from rfl,show (2:Int)^256=115792089237316195423570985008687907853269984665640564039457584007913129639936 from rfl]
  have e1:win g 4=val5 (g 4) (g 5) (g 6) (g 7) (g 8):=rfl
  have e2:win f 4=val5 (f 4) (f 5) (f 6) (f 7) (f 8):=rfl
  rw [e1,e2]
  have q0:=h0 (by omega)
  have q1:=h1 (by omega)
  have q2:=h2 (by omega)
  have q3:=h3 (by omega)
  unfold val9 val8 val5 val4
  omega
def tailSpec:CSpec
 | [.agg [.int .u64 u0,.int .u64 u1,.int .u64 u2,.int .u64 u3,.int .u64 u4,.int .u64 u5,.int .u64 u6,.int .u64 u7,.int .u64 u8],.agg [.int .u64 m0,.int .u64 m1,.int .u64 m2,.int .u64 m3]],k=>((U64 u0.val)/\(U64 u1.val)/\(U64 u2.val)/\(U64 u3.val)/\(U64 u4.val)/\(U64 u5.val)/\(U64 u6.val)/\(U64 u7.val)/\(U64 u8.val)/\(U64 m0.val)/\(U64 m1.val)/\(U64 m2.val)/\(U64 m3.val)/\(9223372036854775808<=m3.val/\val4 u5.val u6.val u7.val u8.val<(val4 m0.val m1.val m2.val m3.val)))/\(∀ r0:Int,r0=(modF (val8 u0.val u1.val u2.val u3.val u4.val u5.val u6.val u7.val+u8.val*13407807929942597099574024998205846127479365820592393377723561443721764030073546976801874298166903427690031858186486050853753882811946569946433649006084096) (val4 m0.val m1.val m2.val m3.val))->k (.agg [.int .u64 (.sym (limb r0 0)),.int .u64 (.sym (limb r0 1)),.int .u64 (.sym (limb r0 2)),.int .u64 (.sym (limb r0 3))]))
 | _,_=>False
@[simp] abbrev GTail1 (y0:Int):Prop:=y0=y0/\y0=y0/\y0=y0/\y0=y0/\True
@[simp] abbrev ETail (y:Int):Prop:=y=y
def VCTail (u0:Int) (u1:Int) (u2:Int) (u3:Int) (u4:Int) (u5:Int) (u6:Int) (u7:Int) (u8:Int) (m0:Int) (m1:Int) (m2:Int) (m3:Int):Prop :=
 (∃ (x1:Int×(Int->Int)),tailR (val4 m0 m1 m2 m3) (val8 u0 u1 u2 u3 u4 u5 u6 u7+u8*(13407807929942597099574024998205846127479365820592393377723561443721764030073546976801874298166903427690031858186486050853753882811946569946433649006084096:Int)) x1.fst x1.snd/\(True/\True/\True/\(4:Int)=x1.fst/\True)/\((9:Int)*(1:Int)=(9:Int)/\u0=x1.snd (0:Int)/\u1=x1.snd (1:Int)/\u2=x1.snd (2:Int)/\u3=x1.snd (3:Int)/\u4=x1.snd (4:Int)/\u5=x1.snd (5:Int)/\u6=x1.snd (6:Int)/\u7=x1.snd (7:Int)/\u8=x1.snd (8:Int)/\True)/\(ETail m0/\ETail m1/\ETail m2/\ETail m3/\True)/\(GTail1 0)/\True)/\∀ (v2:Int×(Int->Int)),tailR (val4 m0 m1 m2 m3) (val8 u0 u1 u2 u3 u4 u5 u6 u7+u8*(13407807929942597099574024998205846127479365820592393377723561443721764030073546976801874298166903427690031858186486050853753882811946569946433649006084096:Int)) v2.fst v2.snd->∀ v3,v3=decide (v2.fst>=(0:Int))->(v3=true->∀ v4,v4=IntKind.i64.wrap (v2.fst+(4:Int))->((0:Int)<=v4/\v4<(9:Int))/\∀ (v5:Int),v5=(0:Int)+v4*(1:Int)->((0:Int)<=v5/\v5<(9:Int))/\∀ v6,v6=v2.snd v5->∀ v7,v7=decide (v6<m3)->((v7=true->∀ v8,v8=IntKind.i64.wrap (v2.fst+(4:Int))->((0:Int)<=v8/\v8<(9:Int))/\∀ (v9:Int),v9=(0:Int)+v8*(1:Int)->((0:Int)<=v9/\v9<(9:Int))/\∀ v10,v10=v2.snd v9->∀ v11,v11=IntKind.i64.wrap (v2.fst+(3:Int))->((0:Int)<=v11/\v11<(9:Int))/\∀ (v12:Int),v12=(0:Int)+v11*(1:Int)->((0:Int)<=v12/\v12<(9:Int))/\∀ v13,v13=v2.snd v12->(U64 v10/\U64 v13/\U64 m3/\v10<m3)/\∀ v14,v14=(v10*(18446744073709551616:Int)+v13)/m3->∀ v15,v15=(v10*(18446744073709551616:Int)+v13)%m3->∃ (x16:Int),x16=qestF (v2.snd (v2.fst+(4:Int))) (v2.snd (v2.fst+(3:Int))) m3/\(True/\True/\True/\ETail v2.fst/\v14=x16/\True)/\(ETail 9/\(∀ (v17:Int),(0:Int)<=v17->v17<(9:Int)->v2.snd v17=v2.snd v17)/\True)/\(ETail m0/\ETail m1/\ETail m2/\ETail m3/\True)/\(GTail1 0)/\True)/\(v7=false->∃ (x18:Int),x18=qestF (v2.snd (v2.fst+(4:Int))) (v2.snd (v2.fst+(3:Int))) m3/\(True/\True/\True/\ETail v2.fst/\(18446744073709551615:Int)=x18/\True)/\(ETail 9/\(∀ (v19:Int),(0:Int)<=v19->v19<(9:Int)->v2.snd v19=v2.snd v19)/\True)/\(ETail m0/\ETail m1/\ETail m2/\ETail m3/\True)/\(GTail1 0)/\True))/\∀ v20,v20=qestF (v2.snd (v2.fst+(4:Int))) (v2.snd (v2.fst+(3:Int))) m3->(U64 v20/\U64 m0)/\∀ v21,v21=v20*m0/(18446744073709551616:Int)->∀ v22,v22=v20*m0%(18446744073709551616:Int)->(U64 v22/\U64 0/\(0:Int)<=(0:Int)/\(0:Int)<=(1:Int))/\∀ v23,v23=s64 v22 0 0->∀ v24,v24=c64 v22 0 0->∀ v25,v25=IntKind.u64.wrap (v21+v24)->∀ v26,v26=IntKind.i64.wrap (v2.fst+(0:Int))->∀ v27,v27=IntKind.i64.wrap (v2.fst+(0:Int))->((0:Int)<=v27/\v27<(9:Int))/\∀ (v28:Int),v28=(0:Int)+v27*(1:Int)->((0:Int)<=v28/\v28<(9:Int))/\∀ v29,v29=v2.snd v28->(U64 v29/\U64 v23/\(0:Int)<=(0:Int)/\(0:Int)<=(1:Int))/\∀ v30,v30=d64 v29 v23 0->∀ v31,v31=b64 v29 v23 0->((0:Int)<=v26/\v26<(9:Int))/\∀ (v32:Int),v32=(0:Int)+v26*(1:Int)->((0:Int)<=v32/\v32+(1:Int)<=(9:Int))/\∀ (v33:Int->Int),v33=updF v2.snd v32 v30->(U64 v20/\U64 m1)/\∀ v34,v34=v20*m1/(18446744073709551616:Int)->∀ v35,v35=v20*m1%(18446744073709551616:Int)->(U64 v35/\U64 v25/\(0:Int)<=(0:Int)/\(0:Int)<=(1:Int))/\∀ v36,v36=s64 v35 v25 0->∀ v37,v37=c64 v35 v25 0->∀ v38,v38=IntKind.u64.wrap (v34+v37)->∀ v39,v39=IntKind.i64.wrap (v2.fst+(1:Int))->∀ v40,v40=IntKind.i64.wrap (v2.fst+(1:Int))->((0:Int)<=v40/\v40<(9:Int))/\∀ (v41:Int),v41=(0:Int)+v40*(1:Int)->((0:Int)<=v41/\v41<(9:Int))/\∀ v42,v42=v33 v41->(U64 v42/\U64 v36/\(0:Int)<=v31/\v31<=(1:Int))/\∀ v43,v43=d64 v42 v36 v31->∀ v44,v44=b64 v42 v36 v31->((0:Int)<=v39/\v39<(9:Int))/\∀ (v45:Int),v45=(0:Int)+v39*(1:Int)->((0:Int)<=v45/\v45+(1:Int)<=(9:Int))/\∀ (v46:Int->Int),v46=updF v33 v45 v43->(U64 v20/\U64 m2)/\∀ v47,v47=v20*m2/(18446744073709551616:Int)->∀ v48,v48=v20*m2%(18446744073709551616:Int)->(U64 v48/\U64 v38/\(0:Int)<=(0:Int)/\(0:Int)<=(1:Int))/\∀ v49,v49=s64 v48 v38 0->∀ v50,v50=c64 v48 v38 0->∀ v51,v51=IntKind.u64.wrap (v47+v50)->∀ v52,v52=IntKind.i64.wrap (v2.fst+(2:Int))->∀ v53,v53=IntKind.i64.wrap (v2.fst+(2:Int))->((0:Int)<=v53/\v53<(9:Int))/\∀ (v54:Int),v54=(0:Int)+v53*(1:Int)->((0:Int)<=v54/\v54<(9:Int))/\∀ v55,v55=v46 v54->(U64 v55/\U64 v49/\(0:Int)<=v44/\v44<=(1:Int))/\∀ v56,v56=d64 v55 v49 v44->∀ v57,v57=b64 v55 v49 v44->((0:Int)<=v52/\v52<(9:Int))/\∀ (v58:Int),v58=(0:Int)+v52*(1:Int)->((0:Int)<=v58/\v58+(1:Int)<=(9:Int))/\∀ (v59:Int->Int),v59=updF v46 v58 v56->(U64 v20/\U64 m3)/\∀ v60,v60=v20*m3/(18446744073709551616:Int)->∀ v61,v61=v20*m3%(18446744073709551616:Int)->(U64 v61/\U64 v51/\(0:Int)<=(0:Int)/\(0:Int)<=(1:Int))/\∀ v62,v62=s64 v61 v51 0->∀ v63,v63=c64 v61 v51 0->∀ v64,v64=IntKind.u64.wrap (v60+v63)->∀ v65,v65=IntKind.i64.wrap (v2.fst+(3:Int))->∀ v66,v66=IntKind.i64.wrap (v2.fst+(3:Int))->((0:Int)<=v66/\v66<(9:Int))/\∀ (v67:Int),v67=(0:Int)+v66*(1:Int)->((0:Int)<=v67/\v67<(9:Int))/\∀ v68,v68=v59 v67->(U64 v68/\U64 v62/\(0:Int)<=v57/\v57<=(1:Int))/\∀ v69,v69=d64 v68 v62 v57->∀ v70,v70=b64 v68 v62 v57->((0:Int)<=v65/\v65<(9:Int))/\∀ (v71:Int),v71=(0:Int)+v65*(1:Int)->((0:Int)<=v71/\v71+(1:Int)<=(9:Int))/\∀ (v72:Int->Int),v72=updF v59 v71 v69->∀ v73,v73=IntKind.i64.wrap (v2.fst+(4:Int))->∀ v74,v74=IntKind.i64.wrap (v2.fst+(4:Int))->((0:Int)<=v74/\v74<(9:Int))/\∀ (v75:Int),v75=(0:Int)+v74*(1:Int)->((0:Int)<=v75/\v75<(9:Int))/\∀ v76,v76=v72 v75->(U64 v76/\U64 v64/\(0:Int)<=v70/\v70<=(1:Int))/\∀ v77,v77=d64 v76 v64 v70->∀ v78,v78=b64 v76 v64 v70->((0:Int)<=v73/\v73<(9:Int))/\∀ (v79:Int),v79=(0:Int)+v73*(1:Int)->((0:Int)<=v79/\v79+(1:Int)<=(9:Int))/\∀ (v80:Int->Int),v80=updF v72 v79 v77->(∃ (x81:Int×(Int->Int)),tailBR (val4 m0 m1 m2 m3) v2.fst v78 x81.fst v80 x81.snd/\(True/\True/\True/\ETail v2.fst/\v78=x81.fst/\True)/\(ETail 9/\(∀ (v82:Int),(0:Int)<=v82->v82<(9:Int)->v80 v82=x81.snd v82)/\True)/\(ETail m0/\ETail m1/\ETail m2/\ETail m3/\True)/\(GTail1 0)/\True)/\∀ (v83:Int×(Int->Int)),tailBR (val4 m0 m1 m2 m3) v2.fst v78 v83.fst v80 v83.snd->∀ v84,v84=(v83.fst==(1:Int))->(v84=true->∀ v85,v85=IntKind.i64.wrap (v2.fst+(0:Int))->∀ v86,v86=IntKind.i64.wrap (v2.fst+(0:Int))->((0:Int)<=v86/\v86<(9:Int))/\∀ (v87:Int),v87=(0:Int)+v86*(1:Int)->((0:Int)<=v87/\v87<(9:Int))/\∀ v88,v88=v83.snd v87->(U64 v88/\U64 m0/\(0:Int)<=(0:Int)/\(0:Int)<=(1:Int))/\∀ v89,v89=s64 v88 m0 0->∀ v90,v90=c64 v88 m0 0->((0:Int)<=v85/\v85<(9:Int))/\∀ (v91:Int),v91=(0:Int)+v85*(1:Int)->((0:Int)<=v91/\v91+(1:Int)<=(9:Int))/\∀ (v92:Int->Int),v92=updF v83.snd v91 v89->∀ v93,v93=IntKind.i64.wrap (v2.fst+(1:Int))->∀ v94,v94=IntKind.i64.wrap (v2.fst+(1:Int))->((0:Int)<=v94/\v94<(9:Int))/\∀ (v95:Int),v95=(0:Int)+v94*(1:Int)->((0:Int)<=v95/\v95<(9:Int))/\∀ v96,v96=v92 v95->(U64 v96/\U64 m1/\(0:Int)<=v90/\v90<=(1:Int))/\∀ v97,v97=s64 v96 m1 v90->∀ v98,v98=c64 v96 m1 v90->((0:Int)<=v93/\v93<(9:Int))/\∀ (v99:Int),v99=(0:Int)+v93*(1:Int)->((0:Int)<=v99/\v99+(1:Int)<=(9:Int))/\∀ (v100:Int->Int),v100=updF v92 v99 v97->∀ v101,v101=IntKind.i64.wrap (v2.fst+(2:Int))->∀ v102,v102=IntKind.i64.wrap (v2.fst+(2:Int))->((0:Int)<=v102/\v102<(9:Int))/\∀ (v103:Int),v103=(0:Int)+v102*(1:Int)->((0:Int)<=v103/\v103<(9:Int))/\∀ v104,v104=v100 v103->(U64 v104/\U64 m2/\(0:Int)<=v98/\v98<=(1:Int))/\∀ v105,v105=s64 v104 m2 v98->∀ v106,v106=c64 v104 m2 v98->((0:Int)<=v101/\v101<(9:Int))/\∀ (v107:Int),v107=(0:Int)+v101*(1:Int)->((0:Int)<=v107/\v107+(1:Int)<=(9:Int))/\∀ (v108:Int->Int),v108=updF v100 v107 v105->∀ v109,v109=IntKind.i64.wrap (v2.fst+(3:Int))->∀ v110,v110=IntKind.i64.wrap (v2.fst+(3:Int))->((0:Int)<=v110/\v110<(9:Int))/\∀ (v111:Int),v111=(0:Int)+v110*(1:Int)->((0:Int)<=v111/\v111<(9:Int))/\∀ v112,v112=v108 v111->(U64 v112/\U64 m3/\(0:Int)<=v106/\v106<=(1:Int))/\∀ v113,v113=s64 v112 m3 v106->∀ v114,v114=c64 v112 m3 v106->((0:Int)<=v109/\v109<(9:Int))/\∀ (v115:Int),v115=(0:Int)+v109*(1:Int)->((0:Int)<=v115/\v115+(1:Int)<=(9:Int))/\∀ (v116:Int->Int),v116=updF v108 v115 v113->∀ v117,v117=IntKind.i64.wrap (v2.fst+(4:Int))->∀ v118,v118=IntKind.i64.wrap (v2.fst+(4:Int))->((0:Int)<=v118/\v118<(9:Int))/\∀ (v119:Int),v119=(0:Int)+v118*(1:Int)->((0:Int)<=v119/\v119<(9:Int))/\∀ v120,v120=v116 v119->(U64 v120/\U64 0/\(0:Int)<=v114/\v114<=(1:Int))/\∀ v121,v121=s64 v120 0 v114->∀ v122,v122=c64 v120 0 v114->((0:Int)<=v117/\v117<(9:Int))/\∀ (v123:Int),v123=(0:Int)+v117*(1:Int)->((0:Int)<=v123/\v123+(1:Int)<=(9:Int))/\∀ (v124:Int->Int),v124=updF v116 v123 v121->∀ v125,v125=IntKind.u64.wrap (v83.fst-v122)->∃ (x126:Int×(Int->Int)),tailBR (val4 m0 m1 m2 m3) v2.fst v78 x126.fst v80 x126.snd/\((True/\True/\True/\ETail v2.fst/\v125=x126.fst/\True)/\(ETail 9/\(∀ (v127:Int),(0:Int)<=v127->v127<(9:Int)->v124 v127=x126.snd v127)/\True)/\(ETail m0/\ETail m1/\ETail m2/\ETail m3/\True)/\(GTail1 0)/\True)/\((2135987035920910082395021706169552114602704522356652769947041607822219725780640550022962086936576:Int)-(win x126.snd v2.fst-x126.fst*(2135987035920910082395021706169552114602704522356652769947041607822219725780640550022962086936576:Int))).toNat<((2135987035920910082395021706169552114602704522356652769947041607822219725780640550022962086936576:Int)-(win v83.snd v2.fst-v83.fst*(2135987035920910082395021706169552114602704522356652769947041607822219725780640550022962086936576:Int))).toNat)/\(v84=false->∀ v128,v128=IntKind.i64.wrap (v2.fst-(1:Int))->∃ (x129:Int×(Int->Int)),tailR (val4 m0 m1 m2 m3) (val8 u0 u1 u2 u3 u4 u5 u6 u7+u8*(13407807929942597099574024998205846127479365820592393377723561443721764030073546976801874298166903427690031858186486050853753882811946569946433649006084096:Int)) x129.fst x129.snd/\((True/\True/\True/\v128=x129.fst/\True)/\(ETail 9/\(∀ (v130:Int),(0:Int)<=v130->v130<(9:Int)->v83.snd v130=x129.snd v130)/\True)/\(ETail m0/\ETail m1/\ETail m2/\ETail m3/\True)/\(GTail1 0)/\True)/\(x129.fst+(1:Int)).toNat<(v2.fst+(1:Int)).toNat))/\(v3=false->(0:Int)<(9:Int)/\∀ v131,v131=v2.snd (0:Int)->(1:Int)<(9:Int)/\∀ v132,v132=v2.snd (1:Int)->(2:Int)<(9:Int)/\∀ v133,v133=v2.snd (2:Int)->(3:Int)<(9:Int)/\∀ v134,v134=v2.snd (3:Int)->(IntKind.u64=IntKind.u64/\v131=limb (modF (val8 u0 u1 u2 u3 u4 u5 u6 u7+u8*(13407807929942597099574024998205846127479365820592393377723561443721764030073546976801874298166903427690031858186486050853753882811946569946433649006084096:Int)) (val4 m0 m1 m2 m3)) 0)/\(IntKind.u64=IntKind.u64/\v132=limb (modF (val8 u0 u1 u2 u3 u4 u5 u6 u7+u8*(13407807929942597099574024998205846127479365820592393377723561443721764030073546976801874298166903427690031858186486050853753882811946569946433649006084096:Int)) (val4 m0 m1 m2 m3)) 1)/\(IntKind.u64=IntKind.u64/\v133=limb (modF (val8 u0 u1 u2 u3 u4 u5 u6 u7+u8*(13407807929942597099574024998205846127479365820592393377723561443721764030073546976801874298166903427690031858186486050853753882811946569946433649006084096:Int)) (val4 m0 m1 m2 m3)) 2)/\(IntKind.u64=IntKind.u64/\v134=limb (modF (val8 u0 u1 u2 u3 u4 u5 u6 u7+u8*(13407807929942597099574024998205846127479365820592393377723561443721764030073546976801874298166903427690031858186486050853753882811946569946433649006084096:Int)) (val4 m0 m1 m2 m3)) 3)/\True)
theorem tieTail (w0:World) (u0:Int) (u1:Int) (u2:Int) (u3:Int) (u4:Int) (u5:Int) (u6:Int) (u7:Int) (u8:Int) (m0:Int) (m1:Int) (m2:Int) (m3:Int):VCTail u0 u1 u2 u3 u4 u5 u6 u7 u8 m0 m1 m2 m3=((recN (GL Tryz.prog tailOrcSpec tailAnnSpec tailCutSpec w0) 40).call 92 [.agg [.int .u64 (.sym u0),.int .u64 (.sym u1),.int .u64 (.sym u2),.int .u64 (.sym u3),.int .u64 (.sym u4),.int .u64 (.sym u5),.int .u64 (.sym u6),.int .u64 (.sym u7),.int .u64 (.sym u8)],.agg [.int .u64 (.sym m0),.int .u64 (.sym m1),.int .u64 (.sym m2),.int .u64 (.sym m3)]] [] (fun r__ _=>eqV r__ (.agg [.int .u64 (.sym (limb (modF (val8 u0 u1 u2 u3 u4 u5 u6 u7+u8*13407807929942597099574024998205846127479365820592393377723561443721764030073546976801874298166903427690031858186486050853753882811946569946433649006084096) (val4 m0 m1 m2 m3)) 0)),.int .u64 (.sym (limb (modF (val8 u0 u1 u2 u3 u4 u5 u6 u7+u8*13407807929942597099574024998205846127479365820592393377723561443721764030073546976801874298166903427690031858186486050853753882811946569946433649006084096) (val4 m0 m1 m2 m3)) 1)),.int .u64 (.sym (limb (modF (val8 u0 u1 u2 u3 u4 u5 u6 u7+u8*13407807929942597099574024998205846127479365820592393377723561443721764030073546976801874298166903427690031858186486050853753882811946569946433649006084096) (val4 m0 m1 m2 m3)) 2)),.int .u64 (.sym (limb (modF (val8 u0 u1 u2 u3 u4 u5 u6 u7+u8*13407807929942597099574024998205846127479365820592393377723561443721764030073546976801874298166903427690031858186486050853753882811946569946433649006084096) (val4 m0 m1 m2 m3)) 3))]))):=by kernel_rfl
set_option maxHeartbeats 2000000 in
theorem pureTail (u0 u1 u2 u3 u4 u5 u6 u7 u8 m0 m1 m2 m3:Int) (h:U64 u0/\U64 u1/\U64 u2/\U64 u3/\U64 u4/\U64 u5/\U64 u6/\U64 u7/\U64 u8/\U64 m0/\U64 m1/\U64 m2/\U64 m3/\9223372036854775808<=m3/\val4 u5 u6 u7 u8<val4 m0 m1 m2 m3):VCTail u0 u1 u2 u3 u4 u5 u6 u7 u8 m0 m1 m2 m3:=by
 obtain ⟨hu0,hu1,hu2,hu3,hu4,hu5,hu6,hu7,hu8,hm0,hm1,hm2,hm3,hn,htop⟩:=h
 have bm:=val4_lt hm0 hm1 hm2 hm3
 have hM0:0<val4 m0 m1 m2 m3:=by unfold val4; unfold U64 at hm0 hm1 hm2; omega
 have hD:val5 m0 m1 m2 m3 0=val4 m0 m1 m2 m3:=by unfold val5; omega
 let f0:Int->Int:=fun j=>if j=0 then u0 else if j=1 then u1 else if j=2 then u2 else if j=3 then u3 else if j=4 then u4 else if j=5 then u5 else if j=6 then u6 else if j=7 then u7 else u8
 refine ⟨⟨(4,f0),⟨⟨by simp only; omega,by simp only; omega⟩,fun j h0 h1=>?_,fun j h0 h1=>by simp only at h0; omega,htop,rfl⟩,⟨trivial,trivial,trivial,rfl,trivial⟩,⟨by decide,rfl,rfl,rfl,rfl,rfl,rfl,rfl,rfl,rfl,trivial⟩,⟨rfl,rfl,rfl,rfl,trivial⟩,⟨rfl,rfl,rfl,rfl,trivial⟩,trivial⟩,?_⟩
 ·show 0<=f0 j/\f0 j<=18446744073709551615
  simp only [f0]
  repeat' split
  all_goals assumption
 rintro ⟨i,f⟩ ⟨⟨i0,i1⟩,hf,hz,ht,hv⟩
 simp only at i0 i1 hf hz ht hv
 refine br (fun c=>?_) fun c=>?_
 ·simp only at c
  have hi:0<=i/\i<=4:=⟨c,i1⟩
  have k4:(0:Int)<=4/\(4:Int)<=4:=by omega
  have fi:∀ k,0<=k->k<=4->0<=f (i+k)/\f (i+k)<=18446744073709551615:=fun k a b=>hf (i+k) (by omega) (by omega)
  have fi0:=hf i (by omega) (by omega)
  have fi1:=fi 1 (by omega) (by omega)
  have fi2:=fi 2 (by omega) (by omega)
  have fi3:=fi 3 (by omega) (by omega)
  have fi4:=fi 4 (by omega) (by omega)
  refine ldStep hi k4 fun v6 h6 v7 h7=>⟨br (fun c7=>?_) (fun c7=>?_) v7 h7,?_⟩
  ·refine ldStep hi k4 fun v10 h10=>ldStep hi (by omega) fun v13 h13=>?_
   simp only at h10 h13 h6
   refine ⟨⟨by rw [h10]; exact fi4,by rw [h13]; exact fi3,hm3,by omega⟩,fun v14 h14 v15 h15=>⟨v14,?_,⟨trivial,trivial,trivial,rfl,rfl,trivial⟩,⟨rfl,fun _ _ _=>rfl,trivial⟩,⟨rfl,rfl,rfl,rfl,trivial⟩,⟨rfl,rfl,rfl,rfl,trivial⟩,trivial⟩⟩
   show v14=qestF (f (i+4)) (f (i+3)) m3
   unfold qestF; rw [if_pos (by omega),h14,h10,h13]
  ·refine ⟨18446744073709551615,?_,⟨trivial,trivial,trivial,rfl,rfl,trivial⟩,⟨rfl,fun _ _ _=>rfl,trivial⟩,⟨rfl,rfl,rfl,rfl,trivial⟩,⟨rfl,rfl,rfl,rfl,trivial⟩,trivial⟩
   show 18446744073709551615=qestF (f (i+4)) (f (i+3)) m3
   simp only at h6
   unfold qestF; rw [if_neg (by omega)]
  intro q hq
  have hq:q=qestF (f (i+4)) (f (i+3)) m3:=hq
  have qe:=qest_in (d:=m3) fi4 fi3 hn hm3.2
  rw [← hq] at qe
  obtain ⟨qr,qlo⟩:=qe
  have n0:(0:Int)<=0/\(0:Int)<=18446744073709551615:=by omega
  refine tkStep (k:=0) qr hm0 n0 (by omega) hf hi (by omega) (fun c0 w0 b0 G0 e0 rc0 rw0 rb0 in0 g0 o0=>?_)
  refine tkStep (k:=1) qr hm1 rc0 rb0 in0 hi (by omega) (fun c1 w1 b1 G1 e1 rc1 rw1 rb1 in1 g1 o1=>?_)
  refine tkStep (k:=2) qr hm2 rc1 rb1 in1 hi (by omega) (fun c2 w2 b2 G2 e2 rc2 rw2 rb2 in2 g2 o2=>?_)
  refine tkStep (k:=3) qr hm3 rc2 rb2 in2 hi (by omega) (fun c3 w3 b3 G3 e3 rc3 rw3 rb3 in3 g3 o3=>?_)
  intro a ha
  refine ldStep hi k4 fun x4 hx4=>?_
  have ex4:x4=f (i+4):=by rw [hx4,o3 _ (by omega),o2 _ (by omega),o1 _ (by omega),o0 _ (by omega)]
  refine ⟨⟨by rw [ex4]; exact fi4,rc3,rb3⟩,fun w4 hw b4 hb=>?_⟩
  obtain ⟨e4,w04,w14,bl,bh⟩:=subW (show 0<=x4/\x4<=18446744073709551615 by rw [ex4]; exact fi4) rc3 rb3.1 rb3.2 hw hb
  refine stStep in3 hi k4 ha ⟨w04,w14⟩ fun G4 in4 g4 o4=>?_
  -- what was taken
  have f1:G0 (i+1)=f (i+1):=o0 _ (by omega)
  have f2:G1 (i+2)=f (i+2):=by rw [o1 _ (by omega),o0 _ (by omega)]
  have f3:G2 (i+3)=f (i+3):=by rw [o2 _ (by omega),o1 _ (by omega),o0 _ (by omega)]
  rw [f1] at e1
  rw [f2] at e2
  rw [f3] at e3
  rw [Int.add_zero] at e0 g0 o0
  try dsimp only at e0
  rw [ex4] at e4
  try dsimp only at e4
  have y0:G4 i=w0:=by rw [o4 _ (by omega),o3 _ (by omega),o2 _ (by omega),o1 _ (by omega),g0]
  have y1:G4 (i+1)=w1:=by rw [o4 _ (by omega),o3 _ (by omega),o2 _ (by omega),g1]
  have y2:G4 (i+2)=w2:=by rw [o4 _ (by omega),o3 _ (by omega),g2]
  have y3:G4 (i+3)=w3:=by rw [o4 _ (by omega),g3]
  have out:∀ j,0<=j->j<=8->j<i\/i+4<j->G4 j=f j:=fun j _ _ hj=>by rw [o4 _ (by omega),o3 _ (by omega),o2 _ (by omega),o1 _ (by omega),o0 _ (by omega)]
  have hW4:win G4 i=val5 w0 w1 w2 w3 w4:=by unfold win; rw [y0,y1,y2,y3,g4]
  have hqd:q*(val5 m0 m1 m2 m3 0)=q*m0*1+q*m1*18446744073709551616+q*m2*340282366920938463463374607431768211456+q*m3*6277101735386680763835789423207666416102355444464034512896:=by unfold val5 val4; grind
  have hsum:win G4 i-b4*2135987035920910082395021706169552114602704522356652769947041607822219725780640550022962086936576+q*val4 m0 m1 m2 m3=win f i:=by
   rw [← hD,hqd,hW4]
   unfold win
   generalize q*m0=P0 at *
   generalize q*m1=P1 at *
   generalize q*m2=P2 at *
   generalize q*m3=P3 at *
   unfold val5 val4
   omega
  have hlt:val5 (f i) (f (i+1)) (f (i+2)) (f (i+3)) (f (i+4))<val5 m0 m1 m2 m3 0*18446744073709551616:=by
   rw [hD]; unfold val5 val4 at *; omega
  have hest:=quo_est4 fi0 fi1 fi2 fi3 fi4 hm0 hm1 hm2 hm3 hn qr qlo hlt
  rw [hD] at hest
  have hest:win f i<q*val4 m0 m1 m2 m3+val4 m0 m1 m2 m3:=hest
  refine ⟨⟨(b4,G4),⟨⟨bl,bh⟩,in4,fun _ _ _ _=>rfl,by simp only; omega,rfl⟩,⟨trivial,trivial,trivial,rfl,rfl,trivial⟩,⟨rfl,fun _ _ _=>rfl,trivial⟩,⟨rfl,rfl,rfl,rfl,trivial⟩,⟨rfl,rfl,rfl,rfl,trivial⟩,trivial⟩,?_⟩
  rintro ⟨b',g⟩ ⟨⟨rb0',rb1'⟩,hg,hout,hlt',hmod⟩
  simp only at rb0' rb1' hg hout hlt' hmod
  have gi0:=hg i (by omega) (by omega)
  have gi1:=hg (i+1) (by omega) (by omega)
  have gi2:=hg (i+2) (by omega) (by omega)
  have gi3:=hg (i+3) (by omega) (by omega)
  have gi4:=hg (i+4) (by omega) (by omega)
  have hwg:0<=win g i/\win g i<2135987035920910082395021706169552114602704522356652769947041607822219725780640550022962086936576:=by unfold win val5 val4; omega
  refine brE (fun eb=>?_) fun eb=>?_
  ·simp only at eb
   subst eb
   refine gvStep (k:=0) hm0 (by omega) hg hi (by omega) (fun c0 x0 H0 z0 rx0 rc0 in0 h0 p0=>?_)
   refine gvStep (k:=1) hm1 rc0 in0 hi (by omega) (fun c1 x1 H1 z1 rx1 rc1 in1 h1 p1=>?_)
   refine gvStep (k:=2) hm2 rc1 in1 hi (by omega) (fun c2 x2 H2 z2 rx2 rc2 in2 h2 p2=>?_)
   refine gvStep (k:=3) hm3 rc2 in2 hi (by omega) (fun c3 x3 H3 z3 rx3 rc3 in3 h3 p3=>?_)
   refine gvStep (k:=4) n0 rc3 in3 hi (by omega) (fun c4 x4' H4 z4 rx4 rc4 in4' h4 p4=>?_)
   intro bb hbb
   simp only at hbb
   have f1:H0 (i+1)=g (i+1):=p0 _ (by omega)
   have f2:H1 (i+2)=g (i+2):=by rw [p1 _ (by omega),p0 _ (by omega)]
   have f3:H2 (i+3)=g (i+3):=by rw [p2 _ (by omega),p1 _ (by omega),p0 _ (by omega)]
   have f4:H3 (i+4)=g (i+4):=by rw [p3 _ (by omega),p2 _ (by omega),p1 _ (by omega),p0 _ (by omega)]
   rw [f1] at z1
   rw [f2] at z2
   rw [f3] at z3
   rw [f4] at z4
   simp only [Int.add_zero] at z0 h0 p0
   try dsimp only at z0
   have y0:H4 i=x0:=by rw [p4 _ (by omega),p3 _ (by omega),p2 _ (by omega),p1 _ (by omega),h0]
   have y1:H4 (i+1)=x1:=by rw [p4 _ (by omega),p3 _ (by omega),p2 _ (by omega),h1]
   have y2:H4 (i+2)=x2:=by rw [p4 _ (by omega),p3 _ (by omega),h2]
   have y3:H4 (i+3)=x3:=by rw [p4 _ (by omega),h3]
   have hWg:win H4 i+c4*2135987035920910082395021706169552114602704522356652769947041607822219725780640550022962086936576=win g i+val4 m0 m1 m2 m3:=by
    unfold win; rw [y0,y1,y2,y3,h4]
    unfold val5 val4
    omega
   rw [w_u64] at hbb
   have hbb':bb=1-c4:=by omega
   have hnew:win H4 i-bb*2135987035920910082395021706169552114602704522356652769947041607822219725780640550022962086936576=win g i-1*2135987035920910082395021706169552114602704522356652769947041607822219725780640550022962086936576+val4 m0 m1 m2 m3:=by rw [hbb']; omega
   refine ⟨(bb,H4),⟨⟨by simp only; omega,by simp only; omega⟩,in4',fun j h0' h1' hj=>?_,?_,?_⟩,⟨⟨trivial,trivial,trivial,rfl,rfl,trivial⟩,⟨rfl,fun _ _ _=>rfl,trivial⟩,⟨rfl,rfl,rfl,rfl,trivial⟩,⟨rfl,rfl,rfl,rfl,trivial⟩,trivial⟩,?_⟩
   ·simp only
    rw [← hout j h0' h1' hj,p4 _ (by omega),p3 _ (by omega),p2 _ (by omega),p1 _ (by omega),p0 _ (by omega)]
   ·simp only; omega
   ·simp only
    rw [hnew,← hmod,Int.add_emod_right]
   ·simp only; omega
  ·simp only at eb
   have hb0:b'=0:=by omega
   subst hb0
   intro v128 h128
   simp only at h128
   rw [i64_id (by omega) (by omega)] at h128
   have e1:win g i=win f i%val4 m0 m1 m2 m3:=by
    have z:win g i-0*2135987035920910082395021706169552114602704522356652769947041607822219725780640550022962086936576=win g i:=by omega
    rw [z,Int.emod_eq_of_lt hwg.1 (by omega)] at hmod
    rw [hmod,← hsum,Int.mul_comm q,Int.add_mul_emod_self_left]
   have hglt:win g i<val4 m0 m1 m2 m3:=by omega
   have g40:g (i+4)=0:=by
    unfold win val5 at hglt
    unfold val4 at hglt bm
    omega
   refine ⟨(v128,g),⟨⟨by simp only; omega,by simp only; omega⟩,hg,fun j h0 h1=>?_,?_,?_⟩,⟨⟨trivial,trivial,trivial,rfl,trivial⟩,⟨rfl,fun _ _ _=>rfl,trivial⟩,⟨rfl,rfl,rfl,rfl,trivial⟩,⟨rfl,rfl,rfl,rfl,trivial⟩,trivial⟩,by simp only; omega⟩
   ·simp only at h0 ⊢
    by_cases z:j=i+4
    ·rw [z,g40]
    ·rw [hout j (by omega) h1 (by omega),out j (by omega) h1 (by omega),hz j (by omega) h1]
   ·simp only
    rw [h128,show i-1+1=i by omega,show i-1+2=i+1 by omega,show i-1+3=i+2 by omega,show i-1+4=i+3 by omega]
    unfold win val5 at hglt
    rw [g40] at hglt
    omega
   ·simp only
    rw [val9_win (f:=f) (g:=g) hi (fun j a b d=>by rw [hout j a b d,out j a b d]),← hv]
    have d:=Int.emod_add_mul_ediv (win f i) (val4 m0 m1 m2 m3)
    have e2:win g i-win f i=val4 m0 m1 m2 m3*(-(win f i/val4 m0 m1 m2 m3)):=by rw [e1,Int.mul_neg]; omega
    rw [e2,Int.mul_assoc,Int.add_mul_emod_self_left]
 ·have e:i = -1:=by simp only at c; omega
  subst e
  refine ⟨by omega,fun v131 a1=>⟨by omega,fun v132 a2=>⟨by omega,fun v133 a3=>⟨by omega,fun v134 a4=>?_⟩⟩⟩⟩
  have z4:=hz 4 (by omega) (by omega)
  have z5:=hz 5 (by omega) (by omega)
  have z6:=hz 6 (by omega) (by omega)
  have z7:=hz 7 (by omega) (by omega)
  have z8:=hz 8 (by omega) (by omega)
  have ht:val4 (f 0) (f 1) (f 2) (f 3)<val4 m0 m1 m2 m3:=ht
  have b0:=hf 0 (by omega) (by omega)
  have b1:=hf 1 (by omega) (by omega)
  have b2:=hf 2 (by omega) (by omega)
  have b3:=hf 3 (by omega) (by omega)
  have e9:val9 f=val4 (f 0) (f 1) (f 2) (f 3):=by unfold val9 val8; rw [z4,z5,z6,z7,z8]; simp [val4]
  have bf:=val4_lt b0 b1 b2 b3
  have er:modF (val8 u0 u1 u2 u3 u4 u5 u6 u7+u8*13407807929942597099574024998205846127479365820592393377723561443721764030073546976801874298166903427690031858186486050853753882811946569946433649006084096) (val4 m0 m1 m2 m3)=val4 (f 0) (f 1) (f 2) (f 3):=by
   unfold modF; rw [if_neg (by omega),← hv,e9,Int.emod_eq_of_lt bf.1 ht]
  obtain ⟨c0,c1,c2,c3⟩:=limbs4' b0 b1 b2 b3
  rw [← er] at c0 c1 c2 c3
  rw [a1,a2,a3,a4]
  exact ⟨⟨rfl,c0.symm⟩,⟨rfl,c1.symm⟩,⟨rfl,c2.symm⟩,⟨rfl,c3.symm⟩,trivial⟩
theorem tail_ok:SpecOk Tryz.prog 92 tailSpec:=by
 intro args k h
 unfold tailSpec at h
 split at h
 ·rename_i u0 u1 u2 u3 u4 u5 u6 u7 u8 m0 m1 m2 m3
  obtain ⟨hr,h⟩:=h
  exact ⟨_,h _ rfl,PureOk.of_tie (GL Tryz.prog tailOrcSpec tailAnnSpec tailCutSpec) (fun w__=>gokL w__ namesOk_ mixed_ tailOrc_ok) (fun _=>rfl) (fun _=>rfl) (args':=[.agg [.int .u64 (.sym u0.val),.int .u64 (.sym u1.val),.int .u64 (.sym u2.val),.int .u64 (.sym u3.val),.int .u64 (.sym u4.val),.int .u64 (.sym u5.val),.int .u64 (.sym u6.val),.int .u64 (.sym u7.val),.int .u64 (.sym u8.val)],.agg [.int .u64 (.sym m0.val),.int .u64 (.sym m1.val),.int .u64 (.sym m2.val),.int .u64 (.sym m3.val)]]) ⟨⟨⟨rfl,rfl⟩,⟨rfl,rfl⟩,⟨rfl,rfl⟩,⟨rfl,rfl⟩,⟨rfl,rfl⟩,⟨rfl,rfl⟩,⟨rfl,rfl⟩,⟨rfl,rfl⟩,⟨rfl,rfl⟩,trivial⟩,⟨⟨rfl,rfl⟩,⟨rfl,rfl⟩,⟨rfl,rfl⟩,⟨rfl,rfl⟩,trivial⟩,trivial⟩ 40 (fun w__=>VCTail u0.val u1.val u2.val u3.val u4.val u5.val u6.val u7.val u8.val m0.val m1.val m2.val m3.val) (fun w__=>tieTail w__ u0.val u1.val u2.val u3.val u4.val u5.val u6.val u7.val u8.val m0.val m1.val m2.val m3.val) (fun w__=>pureTail u0.val u1.val u2.val u3.val u4.val u5.val u6.val u7.val u8.val m0.val m1.val m2.val m3.val hr)⟩
 ·exact h.elim

end Go.Proofs.YtaaobpalpcdlbaaGreat.Bits
