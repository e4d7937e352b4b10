import Derived.Test.YtaaobpalpcdlbaaGreatEd4
namespace Go.Proofs.YtaaobpalpcdlbaaGreat.Bits
open Go Go.Sx Go.RowKit Go.EC
set_option linter.unusedVariables false
set_option maxRecDepth 100000
theorem che_eq {D r s:Int} {t:ByteArray} (h0:0<=D) (hD:secF D=true) (ht:(t.size:Int)=32) (hr:secF r=true) (hs:secF s=true) :
  chE (cX (QF D)) (cY (QF D)) (cB (QF D)) t r s=if cB (vkF (QF D) (beF t) r s) || !decide (cX (vkF (QF D) (beF t) r s)%N2=r) then 16 else 0:=by
 unfold chE
 rw [pP_c,on_c (Q_on D),Q_ne h0 hD,hr,hs]
 simp only [ht,Bool.not_true,Bool.or_self,Bool.false_eq_true,↓reduceIte,ne_eq,not_true_eq_false]
theorem cX_lt (A:Pt p256):0<=cX A/\cX A<P2:=by
 cases A with
 | O=>exact ⟨by decide,by decide⟩
 | A x y=>exact val_in x
theorem far_eq {X r:Int} (hX:0<=X/\X<P2) (h:X%N2=r) (hf:¬ r+N2<P2):X=r:=by
 have a:=Int.emod_add_mul_ediv X N2
 have b:=Int.emod_nonneg X (show N2≠0 by decide)
 have c:0<=X/N2:=Int.ediv_nonneg hX.1 (by decide)
 rcases Int.lt_or_le 0 (X/N2) with e | e
 ·have:=Int.mul_le_mul_of_nonneg_left (show 1<=X/N2 by omega) (show (0:Int)<=N2 by decide)
  omega
 ·have:X/N2=0:=by omega
  rw [this,Int.mul_zero] at a; omega
theorem sum_cg {x y m:Int}:((x+y)%N2+(2*(m%N2))%N2)%N2=0 ↔ Cg (x+y+2*m) 0:=by
 have a:Cg ((x+y)%N2+(2*(m%N2))%N2) (x+y+2*m):=(Cg.mod _).add ((Cg.mod _).trans ((Cg.refl 2).mul (Cg.mod m)))
 constructor
 ·intro h; exact a.symm.trans (Cg.of_emod (by rw [h]; rfl))
 ·intro h; exact (a.trans h).emod
theorem sg_bd (d k:Int) (t:ByteArray):(0<=sgR d k t/\sgR d k t<N2)/\0<=sgS d k t/\sgS d k t<N2:=by
 unfold sgR sgS
 split
 ·exact ⟨inN _,inN _⟩
 ·exact ⟨⟨by decide,by decide⟩,by decide,by decide⟩
theorem lsg (d k:Int) (t:ByteArray):val4 (limb (sgR d k t) 0) (limb (sgR d k t) 1) (limb (sgR d k t) 2) (limb (sgR d k t) 3)=sgR d k t/\val4 (limb (sgS d k t) 0) (limb (sgS d k t) 1) (limb (sgS d k t) 2) (limb (sgS d k t) 3)=sgS d k t:=by
 obtain ⟨⟨a,b⟩,c,e⟩:=sg_bd d k t
 have b:sgR d k t<115792089210356248762697446949407573529996955224135760342422259061068512044369:=b
 have e:sgS d k t<115792089210356248762697446949407573529996955224135760342422259061068512044369:=e
 exact ⟨lBd ⟨a,by omega⟩,lBd ⟨c,by omega⟩⟩
theorem sg_ok {d k:Int} {t:ByteArray} (h:sgE d k t=0):(secF d=true/\secF k=true/\(t.size:Int)=32/\secF (krF k)=true/\secF (ksF d k (beF t))=true)/\sgR d k t=krF k/\sgS d k t=ksF d k (beF t):=by
 refine ⟨?_,if_pos h,if_pos h⟩
 unfold sgE at h
 by_cases c1:(!(secF d) || !(secF k))=true
 ·rw [if_pos c1] at h; exact absurd h (by decide)
 rw [if_neg c1] at h
 by_cases c2:(t.size:Int)≠32
 ·rw [if_pos c2] at h; exact absurd h (by decide)
 rw [if_neg c2] at h
 by_cases c3:(!(secF (krF k)) || !(secF (ksF d k (beF t))))=true
 ·rw [if_pos c3] at h; exact absurd h (by decide)
 simp only [Bool.or_eq_true,Bool.not_eq_true',not_or,Bool.not_eq_false] at c1 c3
 exact ⟨c1.1,c1.2,by omega,c3.1,c3.2⟩
theorem che_sign {D K:Int} {t:ByteArray} (h0:0<=D) (k0:0<=K) (h:sgE D K t=0):chE (cX (QF D)) (cY (QF D)) (cB (QF D)) t (sgR D K t) (sgS D K t)=0:=by
 obtain ⟨⟨hD,hK,ht,hr,hs⟩,e1,e2⟩:=sg_ok h
 rw [e1,e2,che_eq h0 hD ht hr hs,sign_vk h0 k0 hK hs,Q_ne k0 hK]
 have:cX (QF K)%N2=krF K:=rfl
 simp only [this,decide_true,Bool.not_true,Bool.or_self,Bool.false_eq_true,↓reduceIte]
theorem che_other {D K:Int} {t u:ByteArray} (h0:0<=D) (k0:0<=K) (h:sgE D K t=0) (hu:(u.size:Int)=32) (hne:¬ beF t%N2=beF u%N2) (hf:¬ sgR D K t+N2<P2)
  (hs0:¬ ((beF t+beF u)%N2+(2*((sgR D K t*D)%N2))%N2)%N2=0):chE (cX (QF D)) (cY (QF D)) (cB (QF D)) u (sgR D K t) (sgS D K t)=16:=by
 obtain ⟨⟨hD,hK,ht,hr,hs⟩,e1,e2⟩:=sg_ok h
 rw [e1] at hf hs0
 rw [e1,e2,che_eq h0 hD hu hr hs]
 by_cases c:cB (vkF (QF D) (beF u) (krF K) (ksF D K (beF t)))=true
 ·rw [c]; rfl
 have c:cB (vkF (QF D) (beF u) (krF K) (ksF D K (beF t)))=false:=by simpa using c
 by_cases x:cX (vkF (QF D) (beF u) (krF K) (ksF D K (beF t)))%N2=krF K
 ·exfalso
  have y1:=far_eq (cX_lt _) x hf
  have y2:=far_eq (cX_lt (QF K)) (show cX (QF K)%N2=krF K from rfl) hf
  rcases sign_other h0 k0 (beF_in t).1 (beF_in u).1 hK hs c (y1.trans y2.symm) with g | g
  ·exact hne g.symm.emod
  ·exact hs0 (sum_cg.2 g)
 ·rw [c,decide_eq_false x]; rfl
end Go.Proofs.YtaaobpalpcdlbaaGreat.Bits
