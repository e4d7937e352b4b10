import Derived.Test.YtaaobpalpcdlbaaGreatSxR
import Derived.Test.YtaaobpalpcdlbaaGreatProg
import Derived.Test.YtaaobpalpcdlbaaGreatPt13
import Derived.KernelRfl
namespace Go.Proofs.YtaaobpalpcdlbaaGreat.Bits
open Go Go.Sx Go.RowKit Go.EC
set_option linter.unusedVariables false
set_option maxRecDepth 100000
theorem c_inB (Q:Pt p256):(0<=cX Q/\cX Q<115792089237316195423570985008687907853269984665640564039457584007913129639936)/\(0<=cY Q/\cY Q<115792089237316195423570985008687907853269984665640564039457584007913129639936):=by
 have h:inP (cX Q)/\inP (cY Q):=by
  cases Q with
  | O=>exact ⟨by decide,by decide⟩
  | A x y=>exact ⟨val_in x,val_in y⟩
 obtain ⟨⟨h0,h1⟩,⟨k0,k1⟩⟩:=h
 have h1:cX Q<115792089210356248762697446949407573530086143415290314195533631308867097853951:=h1
 have k1:cY Q<115792089210356248762697446949407573530086143415290314195533631308867097853951:=k1
 omega
theorem lcX (Q:Pt p256):val4 (limb (cX Q) 0) (limb (cX Q) 1) (limb (cX Q) 2) (limb (cX Q) 3)=cX Q:=lBd (c_inB Q).1
theorem lcY (Q:Pt p256):val4 (limb (cY Q) 0) (limb (cY Q) 1) (limb (cY Q) 2) (limb (cY Q) 3)=cY Q:=lBd (c_inB Q).2
theorem sumP {A B:Pt p256} (hA:C256.on A) (hB:C256.on B):pnX (plI (soF (cB A) (cX A) (cY A)) (soF (cB B) (cX B) (cY B)))=cX (C256.add A B)/\pnY (plI (soF (cB A) (cX A) (cY A)) (soF (cB B) (cX B) (cY B)))=cY (C256.add A B)/\pnB (plI (soF (cB A) (cX A) (cY A)) (soF (cB B) (cX B) (cY B)))=cB (C256.add A B):=pn_RI ((so_c hA).plus (so_c hB))
theorem sumN {A:Pt p256} (hA:C256.on A):pnX (plI (soF (cB A) (cX A) (cY A)) (soF (cB A) (cX A) (cY A.neg)))=cX .O/\pnY (plI (soF (cB A) (cX A) (cY A)) (soF (cB A) (cX A) (cY A.neg)))=cY .O/\pnB (plI (soF (cB A) (cX A) (cY A)) (soF (cB A) (cX A) (cY A.neg)))=cB .O:=by
 have:=sumP hA (C256.on_neg hA)
 rwa [(neg_c2 A).1,(neg_c2 A).2,C256.add_neg] at this
theorem sumO {A:Pt p256} (hA:C256.on A):pnX (plI (soF (cB A) (cX A) (cY A)) (0,1,0))=cX A/\pnY (plI (soF (cB A) (cX A) (cY A)) (0,1,0))=cY A/\pnB (plI (soF (cB A) (cX A) (cY A)) (0,1,0))=cB A:=by
 have:=pn_RI ((so_c hA).plus RI.O)
 rwa [C256.add_O] at this
theorem pt_of {X Y:Int} {i:Bool} (h:onP X Y i=true) (hx:0<=X) (hy:0<=Y):∃ A,C256.on A/\X=cX A/\Y=cY A/\i=cB A:=⟨_,on_pP h,c_pP h hx hy⟩
theorem cO:cX .O=0/\cY .O=0/\cB .O=true:=⟨rfl,rfl,rfl⟩
theorem nt_of {b v:Bool} (h:v=!b) (z:v=false):b=true:=by subst h; simpa using z
end Go.Proofs.YtaaobpalpcdlbaaGreat.Bits
