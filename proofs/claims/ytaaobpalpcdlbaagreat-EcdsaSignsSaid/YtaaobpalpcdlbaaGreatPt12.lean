import Derived.Test.YtaaobpalpcdlbaaGreatSxR
import Derived.Test.YtaaobpalpcdlbaaGreatProg
import Derived.Test.YtaaobpalpcdlbaaGreatPt10
import Derived.Test.YtaaobpalpcdlbaaGreatPt11
import Derived.Test.YtaaobpalpcdlbaaGreatStr0
import Derived.KernelRfl
namespace Go.Proofs.YtaaobpalpcdlbaaGreat.Bits
open Go Go.Sx Go.RowKit Go.EC
set_option linter.unusedVariables false
set_option maxRecDepth 100000
def pt12Spec:List (FuncId×CSpec):=[(29,pBaseSpec),(8,pAddSpec),(10,pMulSpec),(32,pOnSpec),(31,textSpec),(101,littleSpec),(83,turnedSpec)]
theorem pt12_ok:SpecsOk Tryz.prog pt12Spec:=⟨pBase_ok,pAdd_ok,pMul_ok,pOn_ok,text_ok,little_ok,turned_ok,trivial⟩
theorem lgx:val4 (limb 48439561293906451759052585252797914202762949526041747995844080717082404635286 0) (limb 48439561293906451759052585252797914202762949526041747995844080717082404635286 1) (limb 48439561293906451759052585252797914202762949526041747995844080717082404635286 2) (limb 48439561293906451759052585252797914202762949526041747995844080717082404635286 3)=48439561293906451759052585252797914202762949526041747995844080717082404635286:=by decide +kernel
theorem lgy:val4 (limb 36134250956749795798585127919587881956611106672985015071877198253568414405109 0) (limb 36134250956749795798585127919587881956611106672985015071877198253568414405109 1) (limb 36134250956749795798585127919587881956611106672985015071877198253568414405109 2) (limb 36134250956749795798585127919587881956611106672985015071877198253568414405109 3)=36134250956749795798585127919587881956611106672985015071877198253568414405109:=by decide +kernel
theorem ex_pl:plI (soF false 48439561293906451759052585252797914202762949526041747995844080717082404635286 36134250956749795798585127919587881956611106672985015071877198253568414405109) (soF false 48439561293906451759052585252797914202762949526041747995844080717082404635286 36134250956749795798585127919587881956611106672985015071877198253568414405109)=(61827635433630475729425911693235322573441296393194937036769516740026024670063,29468416531536242154810423193772930342200868632530199947817229236472112149969,63984819202854500337847518611391835314644579662787668416398529297494526954723):=by decide +kernel
theorem ex_mul:mulF 2 (soF false 48439561293906451759052585252797914202762949526041747995844080717082404635286 36134250956749795798585127919587881956611106672985015071877198253568414405109)=(61827635433630475729425911693235322573441296393194937036769516740026024670063,29468416531536242154810423193772930342200868632530199947817229236472112149969,63984819202854500337847518611391835314644579662787668416398529297494526954723):=by decide +kernel
theorem ex_inv:invF 63984819202854500337847518611391835314644579662787668416398529297494526954723 115792089210356248762697446949407573530086143415290314195533631308867097853951=54563939061988417564253505930717058424313337266673854069669345026333367589152:=invF_eq (by decide) (by decide) ⟨30151142445788486051268956917083809017160456014447451711682444336860675242145,by decide⟩
theorem ex_x:pnX (61827635433630475729425911693235322573441296393194937036769516740026024670063,29468416531536242154810423193772930342200868632530199947817229236472112149969,63984819202854500337847518611391835314644579662787668416398529297494526954723)=56515219790691171413109057904011688695424810155802929973526481321309856242040:=by
 unfold pnX
 rw [if_neg (by decide)]
 simp only [ex_inv]
 decide +kernel
theorem ex_y:pnY (61827635433630475729425911693235322573441296393194937036769516740026024670063,29468416531536242154810423193772930342200868632530199947817229236472112149969,63984819202854500337847518611391835314644579662787668416398529297494526954723)=3377031843712258259223711451491452598088675519751548567112458094635497583569:=by
 unfold pnY
 rw [if_neg (by decide)]
 simp only [ex_inv]
 decide +kernel
theorem ex_b:pnB (61827635433630475729425911693235322573441296393194937036769516740026024670063,29468416531536242154810423193772930342200868632530199947817229236472112149969,63984819202854500337847518611391835314644579662787668416398529297494526954723)=false:=by decide +kernel
theorem ex_on:onP 48439561293906451759052585252797914202762949526041747995844080717082404635286 36134250956749795798585127919587881956611106672985015071877198253568414405109 false=true:=by decide +kernel
theorem li_size (n:Int):(littleF n).size=32:=by
 unfold littleF mkBytes
 simp [ByteArray.size]
theorem ba_refl (a:ByteArray):(a==a)=true:=by
 cases a with
 | mk a=>show (a==a)=true; simp
theorem brt {b:Bool} {A B:Prop} (e:b=true) (h:A) (v:Bool) (hv:v=b):(v=true->A)/\(v=false->B):=by
 subst hv; exact ⟨fun _=>h,fun z=>absurd (e.symm.trans z) (by decide)⟩
def awake4Spec:CSpec
 | [],k=>(True)/\(k (.bool (.lit true)))
 | _,_=>False
def VCAwake4:Prop :=
 True/\∀ (v1:Int),v1=(48439561293906451759052585252797914202762949526041747995844080717082404635286:Int)->∀ (v2:Int),v2=(36134250956749795798585127919587881956611106672985015071877198253568414405109:Int)->∀ (v3:Bool),v3=false->(v3=true->(U64 (limb v1 0)/\U64 (limb v1 1)/\U64 (limb v1 2)/\U64 (limb v1 3)/\U64 (limb v2 0)/\U64 (limb v2 1)/\U64 (limb v2 2)/\U64 (limb v2 3)/\U64 (limb v1 0)/\U64 (limb v1 1)/\U64 (limb v1 2)/\U64 (limb v1 3)/\U64 (limb v2 0)/\U64 (limb v2 1)/\U64 (limb v2 2)/\U64 (limb v2 3))/\∀ v4,v4=pnX (plI (soF false (val4 (limb v1 0) (limb v1 1) (limb v1 2) (limb v1 3)) (val4 (limb v2 0) (limb v2 1) (limb v2 2) (limb v2 3))) (soF false (val4 (limb v1 0) (limb v1 1) (limb v1 2) (limb v1 3)) (val4 (limb v2 0) (limb v2 1) (limb v2 2) (limb v2 3))))->∀ v5,v5=pnY (plI (soF false (val4 (limb v1 0) (limb v1 1) (limb v1 2) (limb v1 3)) (val4 (limb v2 0) (limb v2 1) (limb v2 2) (limb v2 3))) (soF false (val4 (limb v1 0) (limb v1 1) (limb v1 2) (limb v1 3)) (val4 (limb v2 0) (limb v2 1) (limb v2 2) (limb v2 3))))->∀ v6,v6=pnB (plI (soF false (val4 (limb v1 0) (limb v1 1) (limb v1 2) (limb v1 3)) (val4 (limb v2 0) (limb v2 1) (limb v2 2) (limb v2 3))) (soF false (val4 (limb v1 0) (limb v1 1) (limb v1 2) (limb v1 3)) (val4 (limb v2 0) (limb v2 1) (limb v2 2) (limb v2 3))))->(limb v4 0=(11964737083406719352:Int)/\limb v4 1=(13873736548487404341:Int)/\limb v4 2=(9967090510939364035:Int)/\limb v4 3=(9003393950442278782:Int))/\∀ (v7:ByteArray),v7=bytesL [55,99,102,50,55,98,49,56,56,100,48,51,52,102,55,101,56,97,53,50,51,56,48,51,48,52,98,53,49,97,99,51,99,48,56,57,54,57,101,50,55,55,102,50,49,98,51,53,97,54,48,98,52,56,102,99,52,55,54,54,57,57,55,56]->∀ v8,v8=(v7==bytesL [55,99,102,50,55,98,49,56,56,100,48,51,52,102,55,101,56,97,53,50,51,56,48,51,48,52,98,53,49,97,99,51,99,48,56,57,54,57,101,50,55,55,102,50,49,98,51,53,97,54,48,98,52,56,102,99,52,55,54,54,57,57,55,56])->(v8=true->false=true)/\(v8=false->false=true))/\(v3=false->(U64 (limb v1 0)/\U64 (limb v1 1)/\U64 (limb v1 2)/\U64 (limb v1 3)/\U64 (limb v2 0)/\U64 (limb v2 1)/\U64 (limb v2 2)/\U64 (limb v2 3)/\U64 (limb v1 0)/\U64 (limb v1 1)/\U64 (limb v1 2)/\U64 (limb v1 3)/\U64 (limb v2 0)/\U64 (limb v2 1)/\U64 (limb v2 2)/\U64 (limb v2 3))/\∀ v9,v9=pnX (plI (soF false (val4 (limb v1 0) (limb v1 1) (limb v1 2) (limb v1 3)) (val4 (limb v2 0) (limb v2 1) (limb v2 2) (limb v2 3))) (soF false (val4 (limb v1 0) (limb v1 1) (limb v1 2) (limb v1 3)) (val4 (limb v2 0) (limb v2 1) (limb v2 2) (limb v2 3))))->∀ v10,v10=pnY (plI (soF false (val4 (limb v1 0) (limb v1 1) (limb v1 2) (limb v1 3)) (val4 (limb v2 0) (limb v2 1) (limb v2 2) (limb v2 3))) (soF false (val4 (limb v1 0) (limb v1 1) (limb v1 2) (limb v1 3)) (val4 (limb v2 0) (limb v2 1) (limb v2 2) (limb v2 3))))->∀ v11,v11=pnB (plI (soF false (val4 (limb v1 0) (limb v1 1) (limb v1 2) (limb v1 3)) (val4 (limb v2 0) (limb v2 1) (limb v2 2) (limb v2 3))) (soF false (val4 (limb v1 0) (limb v1 1) (limb v1 2) (limb v1 3)) (val4 (limb v2 0) (limb v2 1) (limb v2 2) (limb v2 3))))->(limb v9 0=(11964737083406719352:Int)/\limb v9 1=(13873736548487404341:Int)/\limb v9 2=(9967090510939364035:Int)/\limb v9 3=(9003393950442278782:Int))/\∀ (v12:ByteArray),v12=bytesL [55,99,102,50,55,98,49,56,56,100,48,51,52,102,55,101,56,97,53,50,51,56,48,51,48,52,98,53,49,97,99,51,99,48,56,57,54,57,101,50,55,55,102,50,49,98,51,53,97,54,48,98,52,56,102,99,52,55,54,54,57,57,55,56]->∀ v13,v13=(v12==bytesL [55,99,102,50,55,98,49,56,56,100,48,51,52,102,55,101,56,97,53,50,51,56,48,51,48,52,98,53,49,97,99,51,99,48,56,57,54,57,101,50,55,55,102,50,49,98,51,53,97,54,48,98,52,56,102,99,52,55,54,54,57,57,55,56])->(v13=true->(U64 (limb v1 0)/\U64 (limb v1 1)/\U64 (limb v1 2)/\U64 (limb v1 3)/\U64 (limb v2 0)/\U64 (limb v2 1)/\U64 (limb v2 2)/\U64 (limb v2 3))/\∀ v14,v14=onP (val4 (limb v1 0) (limb v1 1) (limb v1 2) (limb v1 3)) (val4 (limb v2 0) (limb v2 1) (limb v2 2) (limb v2 3)) false->(v14=true->(U64 2/\U64 0/\U64 0/\U64 0/\U64 (limb v1 0)/\U64 (limb v1 1)/\U64 (limb v1 2)/\U64 (limb v1 3)/\U64 (limb v2 0)/\U64 (limb v2 1)/\U64 (limb v2 2)/\U64 (limb v2 3))/\∀ v15,v15=pnX (mulF (2:Int) (soF false (val4 (limb v1 0) (limb v1 1) (limb v1 2) (limb v1 3)) (val4 (limb v2 0) (limb v2 1) (limb v2 2) (limb v2 3))))->∀ v16,v16=pnY (mulF (2:Int) (soF false (val4 (limb v1 0) (limb v1 1) (limb v1 2) (limb v1 3)) (val4 (limb v2 0) (limb v2 1) (limb v2 2) (limb v2 3))))->∀ v17,v17=pnB (mulF (2:Int) (soF false (val4 (limb v1 0) (limb v1 1) (limb v1 2) (limb v1 3)) (val4 (limb v2 0) (limb v2 1) (limb v2 2) (limb v2 3))))->∀ v18,v18=(limb v15 0==limb v9 0&&(limb v15 1==limb v9 1&&(limb v15 2==limb v9 2&&(limb v15 3==limb v9 3&&true)))&&(limb v16 0==limb v10 0&&(limb v16 1==limb v10 1&&(limb v16 2==limb v10 2&&(limb v16 3==limb v10 3&&true)))&&(v17==v11&&true)))->(v18=true->(U64 (limb v1 0)/\U64 (limb v1 1)/\U64 (limb v1 2)/\U64 (limb v1 3))/\∀ (v19:ByteArray),v19=littleF (val4 (limb v1 0) (limb v1 1) (limb v1 2) (limb v1 3))->v19.size<=140737488355328/\∀ (v20:ByteArray),v20=revF v19->↑(1+v20.size)<=(9223372036854775807:Int)/\∀ (v21:ByteArray),v21=bytesL [4]++v20->(U64 (limb v2 0)/\U64 (limb v2 1)/\U64 (limb v2 2)/\U64 (limb v2 3))/\∀ (v22:ByteArray),v22=littleF (val4 (limb v2 0) (limb v2 1) (limb v2 2) (limb v2 3))->v22.size<=140737488355328/\∀ (v23:ByteArray),v23=revF v22->↑(v21.size+v23.size)<=(9223372036854775807:Int)/\∀ (v24:ByteArray),v24=v21++v23->∀ (v25:Int),v25=↑v24.size->∀ v26,v26=(v25==(65:Int))->v26=true)/\(v18=false->false=true))/\(v14=false->false=true))/\(v13=false->false=true))
theorem tieAwake4 (w0:World)  : VCAwake4  = ((recN (GC Tryz.prog pt12Spec w0) 60).call 7 [] [] (fun r__ _=>eqV r__ (.bool (.lit true)))):=by kernel_rfl
theorem pureAwake4 (h:True):VCAwake4:=by
 have L:∀ x j,U64 (limb x j):=limb_in
 refine ⟨trivial,fun v1 h1 v2 h2 v3 h3=>⟨fun z=>absurd (h3.symm.trans z) (by decide),fun _=>?_⟩⟩
 subst h1; subst h2
 simp only [lgx,lgy,ex_pl,ex_mul,ex_x,ex_y,ex_b,ex_on]
 refine ⟨⟨L ..,L ..,L ..,L ..,L ..,L ..,L ..,L ..,L ..,L ..,L ..,L ..,L ..,L ..,L ..,L ..⟩,fun v9 h9 v10 h10 v11 h11=>⟨by subst h9; decide +kernel,fun v12 h12=>?_⟩⟩
 subst h12
 refine brt (ba_refl _) ⟨⟨L ..,L ..,L ..,L ..,L ..,L ..,L ..,L ..⟩,brt rfl ⟨⟨by decide,U64_0,U64_0,U64_0,L ..,L ..,L ..,L ..,L ..,L ..,L ..,L ..⟩,fun v15 h15 v16 h16 v17 h17=>?_⟩⟩
 subst h9; subst h10; subst h11; subst h15; subst h16; subst h17
 refine brt (by decide +kernel) ⟨⟨L ..,L ..,L ..,L ..⟩,fun v19 h19=>?_⟩
 have s19:v19.size=32:=by rw [h19]; exact li_size _
 refine ⟨by omega,fun v20 h20=>?_⟩
 have s20:(v20.size:Int)=32:=by rw [h20,revF_size,s19]; rfl
 refine ⟨by omega,fun v21 h21=>⟨⟨L ..,L ..,L ..,L ..⟩,fun v22 h22=>?_⟩⟩
 have s21:(v21.size:Int)=33:=by
  rw [h21,ByteArray.size_append]
  have:(bytesL [4]).size=1:=rfl
  omega
 have s22:v22.size=32:=by rw [h22]; exact li_size _
 refine ⟨by omega,fun v23 h23=>?_⟩
 have s23:(v23.size:Int)=32:=by rw [h23,revF_size,s22]; rfl
 refine ⟨by omega,fun v24 h24 v25 h25 v26 h26=>?_⟩
 have s24:(v24.size:Int)=65:=by rw [h24,ByteArray.size_append]; omega
 rw [h26,h25,s24]; rfl
theorem awake4_ok:SpecOk Tryz.prog 7 awake4Spec:=by
 intro args k h
 unfold awake4Spec at h
 split at h
 ·obtain ⟨hr,h⟩:=h
  exact ⟨_,h ,PureOk.of_tie (GC Tryz.prog pt12Spec) (fun w__=>gok w__ namesOk_ mixed_ pt12_ok) (fun _=>rfl) (fun _=>rfl) (args':=[]) trivial 60 (fun w__=>VCAwake4 ) (fun w__=>tieAwake4 w__ ) (fun w__=>pureAwake4  hr)⟩
 ·exact h.elim

end Go.Proofs.YtaaobpalpcdlbaaGreat.Bits
