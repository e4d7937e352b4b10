import Derived.Test.YtaaobpalpcdlbaaGreatEcE
namespace Go.EC
def twJ (a:Sol):Sol :=
 if a.2.2=0\/a.2.1=0 then (1,1,0) else
 let zz:=tI a.2.2 a.2.2
 let yy:=tI a.2.1 a.2.1
 let s:=tI 4 (tI a.1 yy)
 let m:=tI 3 (tI (sI a.1 zz) (aI a.1 zz))
 let x:=sI (tI m m) (aI s s)
 (x,sI (tI m (sI s x)) (tI 8 (tI yy yy)),tI 2 (tI a.2.1 a.2.2))
def plJ (a b:Sol):Sol :=
 if a.2.2=0 then b else if b.2.2=0 then a else
 let za:=tI a.2.2 a.2.2
 let zb:=tI b.2.2 b.2.2
 let u:=tI a.1 zb
 let h:=sI (tI b.1 za) u
 let s:=tI a.2.1 (tI zb b.2.2)
 let r:=sI (tI b.2.1 (tI za a.2.2)) s
 if h=0 then (if r=0 then twJ a else (1,1,0)) else
 let hh:=tI h h
 let hhh:=tI h hh
 let v:=tI u hh
 let x:=sI (sI (tI r r) hhh) (aI v v)
 (x,sI (tI r (sI v x)) (tI s hhh),tI h (tI a.2.2 b.2.2))
structure RJ (a:Sol) (P:Pt p256):Prop where
 on:C256.on P
 rj:Rj (f2 a.1) (f2 a.2.1) (f2 a.2.2) P
 i1:inP a.1
 i2:inP a.2.1
 i3:inP a.2.2
theorem RJ.O:RJ (1,1,0) .O:=⟨trivial,rfl,by decide,by decide,by decide⟩
theorem RJ.O_of {a:Sol} {P:Pt p256} (h:RJ a P) (hz:a.2.2=0):P = .O:=by
 have:=h.rj
 cases P with
 | O=>rfl
 | A x y=>exact absurd (by rw [hz]; rfl) this.1
theorem RJ.z_of {a:Sol} (h:RJ a .O):a.2.2=0:=(f2_zero h.i3).1 h.rj
theorem RJ.twice {a:Sol} {P:Pt p256} (h:RJ a P):RJ (twJ a) (C256.add P P):=by
 unfold twJ
 split
 ·rename_i hz
  have:C256.add P P = .O:=by
   cases P with
   | O=>rfl
   | A x y =>
    rcases hz with hz | hz
    ·exact absurd (h.O_of hz) (by simp)
    ·have hr:=h.rj
     have z3:f2 a.2.2*(f2 a.2.2*f2 a.2.2)≠0:=C256.mul_ne hr.1 (C256.mul_ne hr.1 hr.1)
     refine C256.add_same (C256.nz (a:=f2 a.2.2*(f2 a.2.2*f2 a.2.2)) ?_ z3)
     have:f2 a.2.1=0:=by rw [hz]; rfl
     rw [hr.2.2] at this
     rw [← this]; grind -lia
  rw [this]; exact RJ.O
 ·rename_i hz
  have hn:f2 a.2.2≠0:=fun e=>hz (.inl ((f2_zero h.i3).1 e))
  have hy:f2 a.2.1≠0:=fun e=>hz (.inr ((f2_zero h.i2).1 e))
  refine ⟨C256.on_add h.on h.on,?_,in_mod _,in_mod _,in_mod _⟩
  have k:=C256.twice_j rfl h.on h.rj hn hy (s:=f2 (tI 4 (tI a.1 (tI a.2.1 a.2.1)))) (m:=f2 (tI 3 (tI (sI a.1 (tI a.2.2 a.2.2)) (aI a.1 (tI a.2.2 a.2.2)))))
   (x:=f2 (sI (tI (tI 3 (tI (sI a.1 (tI a.2.2 a.2.2)) (aI a.1 (tI a.2.2 a.2.2)))) (tI 3 (tI (sI a.1 (tI a.2.2 a.2.2)) (aI a.1 (tI a.2.2 a.2.2))))) (aI (tI 4 (tI a.1 (tI a.2.1 a.2.1))) (tI 4 (tI a.1 (tI a.2.1 a.2.1))))))
   (by simp only [f2_tI,f2_num.2.2.1]) (by simp only [f2_sI,f2_aI,f2_tI,f2_num.2.1]; show _=3*_+(-3)*_; grind -lia) (by simp only [f2_sI,f2_aI,f2_tI])
  simp only [f2_sI,f2_aI,f2_tI,f2_num.1,f2_num.2.1,f2_num.2.2.1,f2_num.2.2.2] at k ⊢
  exact k
theorem RJ.plus {a b:Sol} {P Q:Pt p256} (h:RJ a P) (k:RJ b Q):RJ (plJ a b) (C256.add P Q):=by
 unfold plJ
 split
 ·rename_i hz
  rw [h.O_of hz,C256.O_add]; exact k
 ·split
  ·rename_i hz
   rw [k.O_of hz,C256.add_O]; exact h
  ·rename_i hz1 hz2
   have n1:f2 a.2.2≠0:=fun e=>hz1 ((f2_zero h.i3).1 e)
   have n2:f2 b.2.2≠0:=fun e=>hz2 ((f2_zero k.i3).1 e)
   have ih:inP (sI (tI b.1 (tI a.2.2 a.2.2)) (tI a.1 (tI b.2.2 b.2.2))):=in_mod _
   have ir:inP (sI (tI b.2.1 (tI (tI a.2.2 a.2.2) a.2.2)) (tI a.2.1 (tI (tI b.2.2 b.2.2) b.2.2))):=in_mod _
   obtain ⟨g1,g2,g3⟩:=C256.plus_j rfl h.on k.on h.rj k.rj n1 n2 (u:=f2 (tI a.1 (tI b.2.2 b.2.2))) (h:=f2 (sI (tI b.1 (tI a.2.2 a.2.2)) (tI a.1 (tI b.2.2 b.2.2)))) (s:=f2 (tI a.2.1 (tI (tI b.2.2 b.2.2) b.2.2))) (r:=f2 (sI (tI b.2.1 (tI (tI a.2.2 a.2.2) a.2.2)) (tI a.2.1 (tI (tI b.2.2 b.2.2) b.2.2))))
    (by simp only [f2_tI]) (by simp only [f2_sI,f2_tI]) (by simp only [f2_tI]) (by simp only [f2_sI,f2_tI])
   simp only
   split
   ·rename_i hv
    have hv:=(f2_zero ih).2 hv
    split
    ·rename_i hu
     have hu:=(f2_zero ir).2 hu
     rw [← g2 hv hu]; exact h.twice
    ·rename_i hu
     rw [g1 hv (fun e=>hu ((f2_zero ir).1 e))]; exact RJ.O
   ·rename_i hv
    have hv:f2 (sI (tI b.1 (tI a.2.2 a.2.2)) (tI a.1 (tI b.2.2 b.2.2)))≠0:=fun e=>hv ((f2_zero ih).1 e)
    have:=g3 hv _ _ rfl rfl
    refine ⟨C256.on_add h.on k.on,?_,in_mod _,in_mod _,in_mod _⟩
    simp only [f2_sI,f2_aI,f2_tI] at this ⊢
    exact this
theorem add_slope {x1 y1 x2 y2 t:Fin p256} (hA:C256.on (.A x1 y1)) (hB:C256.on (.A x2 y2)) (hd:¬ (x1=x2/\y1+y2=0)) (h:C256.Sl x1 y1 x2 y2 t) :
  C256.add (.A x1 y1) (.A x2 y2) = .A (t*t-x1-x2) (t*(x1-(t*t-x1-x2))-y1):=by
 rw [C256.add_eq hA hB hd h]
 have e1:C256.thx x1 x2 t=t*t-x1-x2:=by
  show t*t-0-x1-x2=_; grind -lia
 have e2:C256.thy x1 y1 x2 t=t*(x1-(t*t-x1-x2))-y1:=by
  show -(y1+t*(C256.thx x1 x2 t-x1))=_
  rw [e1]; grind -lia
 rw [e1,e2]
theorem sl_far {x1 y1 x2 y2 i:Fin p256} (hA:C256.on (.A x1 y1)) (hB:C256.on (.A x2 y2)) (hx:x1≠x2) (hi:(x2-x1)*i=1):C256.Sl x1 y1 x2 y2 ((y2-y1)*i):=by
 refine C256.sl_other hA hB hx ?_
 have:(y2-y1)*i*(x1-x2) = -(y2-y1)*((x2-x1)*i):=by grind -lia
 rw [this,hi]; grind -lia
theorem sl_near {x y i:Fin p256} (hy:y≠0) (hi:(y+y)*i=1):C256.Sl x y x y (3*(x*x-1)*i):=by
 refine C256.sl_self hy ?_
 have:3*(x*x-1)*i*(2*y)=3*(x*x-1)*((y+y)*i):=by grind -lia
 rw [this,hi]
 show 3*(x*x-1)*1=3*(x*x)+2*0*x + -3
 grind -lia
end Go.EC
