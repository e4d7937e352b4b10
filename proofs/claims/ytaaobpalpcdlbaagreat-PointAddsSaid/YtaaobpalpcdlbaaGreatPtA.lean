import Derived.Test.YtaaobpalpcdlbaaGreatSxR
import Derived.Test.YtaaobpalpcdlbaaGreatProg
import Derived.Test.YtaaobpalpcdlbaaGreatRf5
import Derived.Test.YtaaobpalpcdlbaaGreatPt12
import Derived.Test.YtaaobpalpcdlbaaGreatPt14
import Derived.KernelRfl
namespace Go.Proofs.YtaaobpalpcdlbaaGreat.Bits
open Go Go.Sx Go.RowKit Go.EC
set_option linter.unusedVariables false
set_option linter.unusedSimpArgs false
set_option maxRecDepth 100000
def ptaSpec:List (FuncId × CSpec):=[(8,pAddSpec),(10,pMulSpec),(12,pBothSpec),(6,rOnSpec),(9,rPAddSpec),(11,rMulSpec),(13,rBothSpec),(7,awake4Spec)]
theorem pta_ok:SpecsOk Tryz.prog ptaSpec:=⟨pAdd_ok,pMul_ok,pBoth_ok,rOn_ok,rPAdd_ok,rMul_ok,rBoth_ok,awake4_ok,trivial⟩
def VCPointAdds (ax0:Int) (ax1:Int) (ax2:Int) (ax3:Int) (ay0:Int) (ay1:Int) (ay2:Int) (ay3:Int) (ai:Bool) (bx0:Int) (bx1:Int) (bx2:Int) (bx3:Int) (by0:Int) (by1:Int) (by2:Int) (by3:Int) (bi:Bool) (j0:Int) (j1:Int) (j2:Int) (j3:Int) (d0:Int) (d1:Int) (d2:Int) (d3:Int):Prop :=
 (U64 ax0/\U64 ax1/\U64 ax2/\U64 ax3/\U64 ay0/\U64 ay1/\U64 ay2/\U64 ay3)/\∀ v1,v1=onP (val4 ax0 ax1 ax2 ax3) (val4 ay0 ay1 ay2 ay3) ai->∀ (v2:Bool),v2=!v1->(v2=false->(U64 bx0/\U64 bx1/\U64 bx2/\U64 bx3/\U64 by0/\U64 by1/\U64 by2/\U64 by3)/\∀ v3,v3=onP (val4 bx0 bx1 bx2 bx3) (val4 by0 by1 by2 by3) bi->∀ (v4:Bool),v4=!v3->(v4=true->True/\true=true)/\(v4=false->(U64 ax0/\U64 ax1/\U64 ax2/\U64 ax3/\U64 ay0/\U64 ay1/\U64 ay2/\U64 ay3/\U64 bx0/\U64 bx1/\U64 bx2/\U64 bx3/\U64 by0/\U64 by1/\U64 by2/\U64 by3)/\∀ v5,v5=pnX (plI (soF ai (val4 ax0 ax1 ax2 ax3) (val4 ay0 ay1 ay2 ay3)) (soF bi (val4 bx0 bx1 bx2 bx3) (val4 by0 by1 by2 by3)))->∀ v6,v6=pnY (plI (soF ai (val4 ax0 ax1 ax2 ax3) (val4 ay0 ay1 ay2 ay3)) (soF bi (val4 bx0 bx1 bx2 bx3) (val4 by0 by1 by2 by3)))->∀ v7,v7=pnB (plI (soF ai (val4 ax0 ax1 ax2 ax3) (val4 ay0 ay1 ay2 ay3)) (soF bi (val4 bx0 bx1 bx2 bx3) (val4 by0 by1 by2 by3)))->(U64 ax0/\U64 ax1/\U64 ax2/\U64 ax3/\U64 ay0/\U64 ay1/\U64 ay2/\U64 ay3/\U64 bx0/\U64 bx1/\U64 bx2/\U64 bx3/\U64 by0/\U64 by1/\U64 by2/\U64 by3/\onP (val4 ax0 ax1 ax2 ax3) (val4 ay0 ay1 ay2 ay3) ai=true/\onP (val4 bx0 bx1 bx2 bx3) (val4 by0 by1 by2 by3) bi=true)/\∀ v8,v8=cX (C256.add (pP (val4 ax0 ax1 ax2 ax3) (val4 ay0 ay1 ay2 ay3) ai) (pP (val4 bx0 bx1 bx2 bx3) (val4 by0 by1 by2 by3) bi))->∀ v9,v9=cY (C256.add (pP (val4 ax0 ax1 ax2 ax3) (val4 ay0 ay1 ay2 ay3) ai) (pP (val4 bx0 bx1 bx2 bx3) (val4 by0 by1 by2 by3) bi))->∀ v10,v10=cB (C256.add (pP (val4 ax0 ax1 ax2 ax3) (val4 ay0 ay1 ay2 ay3) ai) (pP (val4 bx0 bx1 bx2 bx3) (val4 by0 by1 by2 by3) bi))->∀ v11,v11=(limb v5 0 == limb v8 0 && (limb v5 1 == limb v8 1 && (limb v5 2 == limb v8 2 && (limb v5 3 == limb v8 3 && true))) && (limb v6 0 == limb v9 0 && (limb v6 1 == limb v9 1 && (limb v6 2 == limb v9 2 && (limb v6 3 == limb v9 3 && true))) && (v7 == v10 && true)))->(v11=true->(U64 d0/\U64 d1/\U64 d2/\U64 d3/\U64 ax0/\U64 ax1/\U64 ax2/\U64 ax3/\U64 ay0/\U64 ay1/\U64 ay2/\U64 ay3)/\∀ v12,v12=pnX (mulF (val4 d0 d1 d2 d3) (soF ai (val4 ax0 ax1 ax2 ax3) (val4 ay0 ay1 ay2 ay3)))->∀ v13,v13=pnY (mulF (val4 d0 d1 d2 d3) (soF ai (val4 ax0 ax1 ax2 ax3) (val4 ay0 ay1 ay2 ay3)))->∀ v14,v14=pnB (mulF (val4 d0 d1 d2 d3) (soF ai (val4 ax0 ax1 ax2 ax3) (val4 ay0 ay1 ay2 ay3)))->(U64 d0/\U64 d1/\U64 d2/\U64 d3/\U64 ax0/\U64 ax1/\U64 ax2/\U64 ax3/\U64 ay0/\U64 ay1/\U64 ay2/\U64 ay3/\onP (val4 ax0 ax1 ax2 ax3) (val4 ay0 ay1 ay2 ay3) ai=true)/\∀ v15,v15=cX (C256.mul (val4 d0 d1 d2 d3).toNat (pP (val4 ax0 ax1 ax2 ax3) (val4 ay0 ay1 ay2 ay3) ai))->∀ v16,v16=cY (C256.mul (val4 d0 d1 d2 d3).toNat (pP (val4 ax0 ax1 ax2 ax3) (val4 ay0 ay1 ay2 ay3) ai))->∀ v17,v17=cB (C256.mul (val4 d0 d1 d2 d3).toNat (pP (val4 ax0 ax1 ax2 ax3) (val4 ay0 ay1 ay2 ay3) ai))->∀ v18,v18=(limb v12 0 == limb v15 0 && (limb v12 1 == limb v15 1 && (limb v12 2 == limb v15 2 && (limb v12 3 == limb v15 3 && true))) && (limb v13 0 == limb v16 0 && (limb v13 1 == limb v16 1 && (limb v13 2 == limb v16 2 && (limb v13 3 == limb v16 3 && true))) && (v14 == v17 && true)))->(v18=true->(U64 j0/\U64 j1/\U64 j2/\U64 j3/\U64 d0/\U64 d1/\U64 d2/\U64 d3/\U64 ax0/\U64 ax1/\U64 ax2/\U64 ax3/\U64 ay0/\U64 ay1/\U64 ay2/\U64 ay3/\onP (val4 ax0 ax1 ax2 ax3) (val4 ay0 ay1 ay2 ay3) ai=true)/\∀ v19,v19=cX (BF (val4 j0 j1 j2 j3) (val4 d0 d1 d2 d3) (pP (val4 ax0 ax1 ax2 ax3) (val4 ay0 ay1 ay2 ay3) ai))->∀ v20,v20=cY (BF (val4 j0 j1 j2 j3) (val4 d0 d1 d2 d3) (pP (val4 ax0 ax1 ax2 ax3) (val4 ay0 ay1 ay2 ay3) ai))->∀ v21,v21=cB (BF (val4 j0 j1 j2 j3) (val4 d0 d1 d2 d3) (pP (val4 ax0 ax1 ax2 ax3) (val4 ay0 ay1 ay2 ay3) ai))->(U64 j0/\U64 j1/\U64 j2/\U64 j3/\U64 d0/\U64 d1/\U64 d2/\U64 d3/\U64 ax0/\U64 ax1/\U64 ax2/\U64 ax3/\U64 ay0/\U64 ay1/\U64 ay2/\U64 ay3/\onP (val4 ax0 ax1 ax2 ax3) (val4 ay0 ay1 ay2 ay3) ai=true)/\∀ v22,v22=cX (BF (val4 j0 j1 j2 j3) (val4 d0 d1 d2 d3) (pP (val4 ax0 ax1 ax2 ax3) (val4 ay0 ay1 ay2 ay3) ai))->∀ v23,v23=cY (BF (val4 j0 j1 j2 j3) (val4 d0 d1 d2 d3) (pP (val4 ax0 ax1 ax2 ax3) (val4 ay0 ay1 ay2 ay3) ai))->∀ v24,v24=cB (BF (val4 j0 j1 j2 j3) (val4 d0 d1 d2 d3) (pP (val4 ax0 ax1 ax2 ax3) (val4 ay0 ay1 ay2 ay3) ai))->∀ v25,v25=(limb v19 0 == limb v22 0 && (limb v19 1 == limb v22 1 && (limb v19 2 == limb v22 2 && (limb v19 3 == limb v22 3 && true))) && (limb v20 0 == limb v23 0 && (limb v20 1 == limb v23 1 && (limb v20 2 == limb v23 2 && (limb v20 3 == limb v23 3 && true))) && (v21 == v24 && true)))->(v25=true->True/\true=true)/\(v25=false->false=true))/\(v18=false->false=true))/\(v11=false->false=true)))/\(v2=true->True/\true=true)
theorem tiePointAdds (w0:World) (ax0:Int) (ax1:Int) (ax2:Int) (ax3:Int) (ay0:Int) (ay1:Int) (ay2:Int) (ay3:Int) (ai:Bool) (bx0:Int) (bx1:Int) (bx2:Int) (bx3:Int) (by0:Int) (by1:Int) (by2:Int) (by3:Int) (bi:Bool) (j0:Int) (j1:Int) (j2:Int) (j3:Int) (d0:Int) (d1:Int) (d2:Int) (d3:Int):VCPointAdds ax0 ax1 ax2 ax3 ay0 ay1 ay2 ay3 ai bx0 bx1 bx2 bx3 by0 by1 by2 by3 bi j0 j1 j2 j3 d0 d1 d2 d3=((recN (GC Tryz.prog ptaSpec w0) 60).call 3 [.agg [.int .u64 (.sym ax0),.int .u64 (.sym ax1),.int .u64 (.sym ax2),.int .u64 (.sym ax3),.int .u64 (.sym ay0),.int .u64 (.sym ay1),.int .u64 (.sym ay2),.int .u64 (.sym ay3),.bool (.sym ai)],.agg [.int .u64 (.sym bx0),.int .u64 (.sym bx1),.int .u64 (.sym bx2),.int .u64 (.sym bx3),.int .u64 (.sym by0),.int .u64 (.sym by1),.int .u64 (.sym by2),.int .u64 (.sym by3),.bool (.sym bi)],.agg [.int .u64 (.sym j0),.int .u64 (.sym j1),.int .u64 (.sym j2),.int .u64 (.sym j3)],.agg [.int .u64 (.sym d0),.int .u64 (.sym d1),.int .u64 (.sym d2),.int .u64 (.sym d3)]] [] (fun v _=>isTrue v)):=by kernel_rfl
theorem purePointAdds (ax0 ax1 ax2 ax3 ay0 ay1 ay2 ay3:Int) (ai:Bool) (bx0 bx1 bx2 bx3 by0 by1 by2 by3:Int) (bi:Bool) (j0 j1 j2 j3 d0 d1 d2 d3:Int) (h:U64 ax0/\U64 ax1/\U64 ax2/\U64 ax3/\U64 ay0/\U64 ay1/\U64 ay2/\U64 ay3/\U64 bx0/\U64 bx1/\U64 bx2/\U64 bx3/\U64 by0/\U64 by1/\U64 by2/\U64 by3/\U64 j0/\U64 j1/\U64 j2/\U64 j3/\U64 d0/\U64 d1/\U64 d2/\U64 d3):VCPointAdds ax0 ax1 ax2 ax3 ay0 ay1 ay2 ay3 ai bx0 bx1 bx2 bx3 by0 by1 by2 by3 bi j0 j1 j2 j3 d0 d1 d2 d3:=by
 obtain ⟨hax0,hax1,hax2,hax3,hay0,hay1,hay2,hay3,hbx0,hbx1,hbx2,hbx3,hby0,hby1,hby2,hby3,hj0,hj1,hj2,hj3,hd0,hd1,hd2,hd3⟩:=h
 have eax0:U64 ax0=True:=eq_true hax0
 have eax1:U64 ax1=True:=eq_true hax1
 have eax2:U64 ax2=True:=eq_true hax2
 have eax3:U64 ax3=True:=eq_true hax3
 have eay0:U64 ay0=True:=eq_true hay0
 have eay1:U64 ay1=True:=eq_true hay1
 have eay2:U64 ay2=True:=eq_true hay2
 have eay3:U64 ay3=True:=eq_true hay3
 have ebx0:U64 bx0=True:=eq_true hbx0
 have ebx1:U64 bx1=True:=eq_true hbx1
 have ebx2:U64 bx2=True:=eq_true hbx2
 have ebx3:U64 bx3=True:=eq_true hbx3
 have eby0:U64 by0=True:=eq_true hby0
 have eby1:U64 by1=True:=eq_true hby1
 have eby2:U64 by2=True:=eq_true hby2
 have eby3:U64 by3=True:=eq_true hby3
 have ej0:U64 j0=True:=eq_true hj0
 have ej1:U64 j1=True:=eq_true hj1
 have ej2:U64 j2=True:=eq_true hj2
 have ej3:U64 j3=True:=eq_true hj3
 have ed0:U64 d0=True:=eq_true hd0
 have ed1:U64 d1=True:=eq_true hd1
 have ed2:U64 d2=True:=eq_true hd2
 have ed3:U64 d3=True:=eq_true hd3
 have bj:=val4_lt hj0 hj1 hj2 hj3
 have bk:=val4_lt hd0 hd1 hd2 hd3
 have nax:=val4_lt hax0 hax1 hax2 hax3
 have nay:=val4_lt hay0 hay1 hay2 hay3
 have nbx:=val4_lt hbx0 hbx1 hbx2 hbx3
 have nby:=val4_lt hby0 hby1 hby2 hby3
 refine ⟨⟨hax0,hax1,hax2,hax3,hay0,hay1,hay2,hay3⟩,fun v1 h1 v2 h2=>⟨fun z2=>⟨⟨hbx0,hbx1,hbx2,hbx3,hby0,hby1,hby2,hby3⟩,fun v3 h3 v4 h4=>⟨fun _=>⟨trivial,rfl⟩,fun z4=>?_⟩⟩,fun _=>⟨trivial,rfl⟩⟩⟩
 obtain ⟨A,oA,xA,yA,iA⟩:=pt_of (h1.symm.trans (nt_of h2 z2)) nax.1 nay.1
 obtain ⟨B,oB,xB,yB,iB⟩:=pt_of (h3.symm.trans (nt_of h4 z4)) nbx.1 nby.1
 clear h1 h2 h3 h4 z2 z4
 subst iA; subst iB
 obtain ⟨s1,s2,s3⟩:=sumP oA oB
 obtain ⟨m1,m2,m3⟩:=mulP oA bk
 have cA:=on_c oA
 have cB_:=on_c oB
 simp only [forall_eq,ulP,eax0,eax1,eax2,eax3,eay0,eay1,eay2,eay3,ebx0,ebx1,ebx2,ebx3,eby0,eby1,eby2,eby3,ej0,ej1,ej2,ej3,ed0,ed1,ed2,ed3,xA,yA,xB,yB,lcX,lcY,cA,cB_,pP_c,s1,s2,s3,m1,m2,m3,beq_self_eq_true,Bool.and_self,Bool.and_true,true_and,and_self]
 simp
theorem walkPointAdds (ax0:Int) (ax1:Int) (ax2:Int) (ax3:Int) (ay0:Int) (ay1:Int) (ay2:Int) (ay3:Int) (ai:Bool) (bx0:Int) (bx1:Int) (bx2:Int) (bx3:Int) (by0:Int) (by1:Int) (by2:Int) (by3:Int) (bi:Bool) (j0:Int) (j1:Int) (j2:Int) (j3:Int) (d0:Int) (d1:Int) (d2:Int) (d3:Int) (w0:World) (hax0:(Lit.int .u64 ax0).wf=true) (hax1:(Lit.int .u64 ax1).wf=true) (hax2:(Lit.int .u64 ax2).wf=true) (hax3:(Lit.int .u64 ax3).wf=true) (hay0:(Lit.int .u64 ay0).wf=true) (hay1:(Lit.int .u64 ay1).wf=true) (hay2:(Lit.int .u64 ay2).wf=true) (hay3:(Lit.int .u64 ay3).wf=true) (hbx0:(Lit.int .u64 bx0).wf=true) (hbx1:(Lit.int .u64 bx1).wf=true) (hbx2:(Lit.int .u64 bx2).wf=true) (hbx3:(Lit.int .u64 bx3).wf=true) (hby0:(Lit.int .u64 by0).wf=true) (hby1:(Lit.int .u64 by1).wf=true) (hby2:(Lit.int .u64 by2).wf=true) (hby3:(Lit.int .u64 by3).wf=true) (hj0:(Lit.int .u64 j0).wf=true) (hj1:(Lit.int .u64 j1).wf=true) (hj2:(Lit.int .u64 j2).wf=true) (hj3:(Lit.int .u64 j3).wf=true) (hd0:(Lit.int .u64 d0).wf=true) (hd1:(Lit.int .u64 d1).wf=true) (hd2:(Lit.int .u64 d2).wf=true) (hd3:(Lit.int .u64 d3).wf=true):Calls Tryz.prog 3 #[.agg #[.int .u64 ax0,.int .u64 ax1,.int .u64 ax2,.int .u64 ax3,.int .u64 ay0,.int .u64 ay1,.int .u64 ay2,.int .u64 ay3,.bool ai],.agg #[.int .u64 bx0,.int .u64 bx1,.int .u64 bx2,.int .u64 bx3,.int .u64 by0,.int .u64 by1,.int .u64 by2,.int .u64 by3,.bool bi],.agg #[.int .u64 j0,.int .u64 j1,.int .u64 j2,.int .u64 j3],.agg #[.int .u64 d0,.int .u64 d1,.int .u64 d2,.int .u64 d3]] w0 fun e w'=>e = .returned (.bool true)/\Below w0.heap.size w0 w' :=
 law_tie (G:=GC Tryz.prog ptaSpec w0) (gok w0 namesOk_ mixed_ pta_ok) (n:=60) (f:=3) (args:=[.agg [.int .u64 (.sym ax0),.int .u64 (.sym ax1),.int .u64 (.sym ax2),.int .u64 (.sym ax3),.int .u64 (.sym ay0),.int .u64 (.sym ay1),.int .u64 (.sym ay2),.int .u64 (.sym ay3),.bool (.sym ai)],.agg [.int .u64 (.sym bx0),.int .u64 (.sym bx1),.int .u64 (.sym bx2),.int .u64 (.sym bx3),.int .u64 (.sym by0),.int .u64 (.sym by1),.int .u64 (.sym by2),.int .u64 (.sym by3),.bool (.sym bi)],.agg [.int .u64 (.sym j0),.int .u64 (.sym j1),.int .u64 (.sym j2),.int .u64 (.sym j3)],.agg [.int .u64 (.sym d0),.int .u64 (.sym d1),.int .u64 (.sym d2),.int .u64 (.sym d3)]]) (by kernel_rfl) (VCPointAdds ax0 ax1 ax2 ax3 ay0 ay1 ay2 ay3 ai bx0 bx1 bx2 bx3 by0 by1 by2 by3 bi j0 j1 j2 j3 d0 d1 d2 d3) (tiePointAdds w0 ax0 ax1 ax2 ax3 ay0 ay1 ay2 ay3 ai bx0 bx1 bx2 bx3 by0 by1 by2 by3 bi j0 j1 j2 j3 d0 d1 d2 d3) (purePointAdds ax0 ax1 ax2 ax3 ay0 ay1 ay2 ay3 ai bx0 bx1 bx2 bx3 by0 by1 by2 by3 bi j0 j1 j2 j3 d0 d1 d2 d3 ⟨wf_u64 hax0,wf_u64 hax1,wf_u64 hax2,wf_u64 hax3,wf_u64 hay0,wf_u64 hay1,wf_u64 hay2,wf_u64 hay3,wf_u64 hbx0,wf_u64 hbx1,wf_u64 hbx2,wf_u64 hbx3,wf_u64 hby0,wf_u64 hby1,wf_u64 hby2,wf_u64 hby3,wf_u64 hj0,wf_u64 hj1,wf_u64 hj2,wf_u64 hj3,wf_u64 hd0,wf_u64 hd1,wf_u64 hd2,wf_u64 hd3⟩)

end Go.Proofs.YtaaobpalpcdlbaaGreat.Bits
