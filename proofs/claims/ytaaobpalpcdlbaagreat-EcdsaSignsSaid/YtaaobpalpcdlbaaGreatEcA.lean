namespace Go.EC
set_option linter.unusedVariables false

structure Cv (p:Nat) [NeZero p] where
 inv:Fin p->Fin p
 a2:Fin p
 a4:Fin p
 a6:Fin p
 inv_mul:∀ x:Fin p,x≠0->inv x*x=1
 two:(2:Fin p)≠0
 ns:∀ x:Fin p,x*x*x+a2*(x*x)+a4*x+a6=0->3*(x*x)+2*a2*x+a4≠0

inductive Pt (p:Nat) where
 | O
 | A (x y:Fin p)

def Pt.neg {p:Nat} [NeZero p]:Pt p->Pt p
 | .O => .O
 | .A x y => .A x (-y)
theorem Pt.neg_neg {p:Nat} [NeZero p] (A:Pt p):A.neg.neg=A:=by
 cases A with
 | O=>rfl
 | A x y=>simp only [Pt.neg]; congr 1; grind -lia

theorem eq_of_sub {p:Nat} [NeZero p] {a b:Fin p} (h:a-b=0):a=b:=by grind -lia
theorem mul_sub_self {p:Nat} [NeZero p] (t a:Fin p):t*(a-a)=0:=by grind -lia
theorem tang {p:Nat} [NeZero p] {x1 y1 x2 y2 al be X Y:Fin p} (a1:y1-y2=al*(x1-x2)) (hY:Y = -(y2+be*(X-x2))) (e:x1=X):y1+Y=(be-al)*(x2-x1):=by
 subst e hY
 have:y1=y2+al*(x1-x2):=by rw [← a1]; grind -lia
 rw [this]; grind -lia
theorem tang2 {p:Nat} [NeZero p] {x1 x2 al be ta c2 c4:Fin p} (q:ta*((be-al)*(x2-x1))=x1*x1+x1*x1+x1*x1+c2*(x1+x1)+c4) (h:al*(be*(x2-x1))=x1*x1+x1*x2+x2*x2+c2*(x1+x2)+c4) :
  (x2-x1)*((ta+be)*(be-al))=(x2-x1)*((be*be-c2-x2-x1)-x1):=by
 have e:(x2-x1)*((ta+be)*(be-al))=ta*((be-al)*(x2-x1))+be*be*(x2-x1)-al*(be*(x2-x1)):=by grind -lia
 rw [e,q,h]; grind -lia
theorem tang3 {p:Nat} [NeZero p] (x1 x2 y2 be:Fin p) : -(y2+be*(x1-x2))+y2=be*(x2-x1):=by grind -lia
theorem tang4 {p:Nat} [NeZero p] (x1 x2 x3 be c2:Fin p) (h:x1=be*be-c2-x2-x3):be*be-c2-x2-x1-x1=x3-x1:=by
 have:x3=be*be-c2-x2-x1:=by rw [h]; grind -lia
 rw [← this]
theorem gen0 {p:Nat} [NeZero p] (X x1 ta be al:Fin p):(X-x1)*((ta+be)*(be-al))=(be*(X-x1)-ta*(x1-X))*(be-al):=by grind -lia
theorem gen1 {p:Nat} [NeZero p] {x1 x2 y1 y2 al be X:Fin p} (a1:y1-y2=al*(x1-x2)):be*(X-x1)-(y1 - -(y2+be*(X-x2)))=be*(x2-x1)-al*(x1-x2)-(y2+y2):=by
 have:y1=y2+al*(x1-x2):=by rw [← a1]; grind -lia
 rw [this]; grind -lia
theorem gen2 {p:Nat} [NeZero p] {x1 x2 x3 y1 y2 y3 al be c2 c4:Fin p} (a1:y1-y2=al*(x1-x2)) (a2:al*(y1+y2)=x1*x1+x1*x2+x2*x2+c2*(x1+x2)+c4)
  (b1:y2-y3=be*(x2-x3)) (b2:be*(y2+y3)=x2*x2+x2*x3+x3*x3+c2*(x2+x3)+c4) :
  (be-al)*(y2+y2)=al*al*(x1-x2)+be*be*(x2-x3)-(x1-x3)*(x1+x2+x3+c2):=by
 have e1:y1=y2+al*(x1-x2):=by rw [← a1]; grind -lia
 have e3:y3=y2-be*(x2-x3):=by rw [← b1]; grind -lia
 rw [e1] at a2
 rw [e3] at b2
 have:(be-al)*(y2+y2)=be*(y2+(y2-be*(x2-x3)))+be*be*(x2-x3)-al*(y2+al*(x1-x2)+y2)+al*al*(x1-x2):=by grind -lia
 rw [this,a2,b2]; grind -lia
theorem gen3 {p:Nat} [NeZero p] (x1 x2 y2 al be:Fin p):(be*(x2-x1)-al*(x1-x2)-(y2+y2))*(be-al)=(be*be-al*al)*(x2-x1)-(be-al)*(y2+y2):=by grind -lia
theorem gen4 {p:Nat} [NeZero p] (x1 x2 x3 al be c2:Fin p):(be*be-al*al)*(x2-x1)-(al*al*(x1-x2)+be*be*(x2-x3)-(x1-x3)*(x1+x2+x3+c2))=(be*be-c2-x2-x3-x1)*(x3-x1):=by grind -lia

section
variable {p : Nat} [NeZero p] (C : Cv p)
include C

theorem Cv.cancel {x a b:Fin p} (hx:x≠0) (h:x*a=x*b):a=b:=by
 have e:=C.inv_mul x hx
 have t:C.inv x*(x*a)=C.inv x*(x*b):=by rw [h]
 have e1:∀ c,C.inv x*(x*c)=(C.inv x*x)*c:=by intro c; grind -lia
 rw [e1,e1,e] at t
 grind -lia
theorem Cv.nz {a b:Fin p} (h:a*b=0) (ha:a≠0):b=0:=C.cancel ha (by rw [h]; grind -lia)
theorem Cv.nz2 {a:Fin p} (h:a+a=0):a=0:=C.nz (a:=2) (by grind -lia) C.two

def Cv.slope (x1 y1 x2 y2:Fin p):Fin p :=
 if x1=x2 then (3*(x1*x1)+2*C.a2*x1+C.a4)*C.inv (2*y1) else (y1-y2)*C.inv (x1-x2)
def Cv.thx (x1 x2 al:Fin p):Fin p:=al*al-C.a2-x1-x2
def Cv.thy (x1 y1 x2 al:Fin p):Fin p := -(y1+al*(C.thx x1 x2 al-x1))
def Cv.add:Pt p->Pt p->Pt p
 | .O,B=>B
 | .A x1 y1,.O => .A x1 y1
 | .A x1 y1,.A x2 y2=>if x1=x2/\y1+y2=0 then .O else .A (C.thx x1 x2 (C.slope x1 y1 x2 y2)) (C.thy x1 y1 x2 (C.slope x1 y1 x2 y2))
def Cv.on:Pt p->Prop
 | .O=>True
 | .A x y=>y*y=x*x*x+C.a2*(x*x)+C.a4*x+C.a6

structure Cv.Sl (x1 y1 x2 y2 al:Fin p):Prop where
 h1:y1-y2=al*(x1-x2)
 h2:al*(y1+y2)=x1*x1+x1*x2+x2*x2+C.a2*(x1+x2)+C.a4

theorem Cv.slope_ok {x1 y1 x2 y2:Fin p} (hA:C.on (.A x1 y1)) (hB:C.on (.A x2 y2)) (hd:¬ (x1=x2/\y1+y2=0)):C.Sl x1 y1 x2 y2 (C.slope x1 y1 x2 y2):=by
 simp only [Cv.on] at hA hB
 unfold Cv.slope
 by_cases h:x1=x2
 ·subst h
  have hs:y1+y2≠0:=fun e=>hd ⟨rfl,e⟩
  have he:y1-y2=0:=C.nz (a:=y1+y2) (by grind -lia) hs
  have he:y1=y2:=by grind -lia
  subst he
  have h2:2*y1≠0:=by grind -lia
  have hi:=C.inv_mul _ h2
  rw [if_pos rfl]
  refine ⟨by grind -lia,?_⟩
  generalize C.inv (2*y1)=i at *
  have:(3*(x1*x1)+2*C.a2*x1+C.a4)*i*(y1+y1)=(3*(x1*x1)+2*C.a2*x1+C.a4)*(i*(2*y1)):=by grind -lia
  rw [this,hi]; grind -lia
 ·have hs:x1-x2≠0:=by grind -lia
  have hi:=C.inv_mul _ hs
  rw [if_neg h]
  generalize C.inv (x1-x2)=i at *
  have k:(y1-y2)*i*(x1-x2)=y1-y2:=by
   have:(y1-y2)*i*(x1-x2)=(y1-y2)*(i*(x1-x2)):=by grind -lia
   rw [this,hi]; grind -lia
  refine ⟨k.symm,C.cancel hs ?_⟩
  have:(x1-x2)*((y1-y2)*i*(y1+y2))=((y1-y2)*i*(x1-x2))*(y1+y2):=by grind -lia
  rw [this,k]
  grind -lia

theorem Cv.sl_uniq {x1 y1 x2 y2 al be:Fin p} (hd:¬ (x1=x2/\y1+y2=0)) (h:C.Sl x1 y1 x2 y2 al) (k:C.Sl x1 y1 x2 y2 be):al=be:=by
 obtain ⟨h1,h2⟩:=h
 obtain ⟨k1,k2⟩:=k
 by_cases e:x1=x2
 ·exact C.cancel (x:=y1+y2) (fun z=>hd ⟨e,z⟩) (by grind -lia)
 ·exact C.cancel (x:=x1-x2) (by grind -lia) (by grind -lia)

theorem Cv.add_eq {x1 y1 x2 y2 al:Fin p} (hA:C.on (.A x1 y1)) (hB:C.on (.A x2 y2)) (hd:¬ (x1=x2/\y1+y2=0)) (h:C.Sl x1 y1 x2 y2 al) :
  C.add (.A x1 y1) (.A x2 y2) = .A (C.thx x1 x2 al) (C.thy x1 y1 x2 al):=by
 have:=C.sl_uniq hd (C.slope_ok hA hB hd) h
 simp only [Cv.add,if_neg hd,this]

theorem Cv.sl_exists {x1 y1 x2 y2:Fin p} (hA:C.on (.A x1 y1)) (hB:C.on (.A x2 y2)) (hd:¬ (x1=x2/\y1+y2=0)) :
  ∃ al,C.Sl x1 y1 x2 y2 al/\C.add (.A x1 y1) (.A x2 y2) = .A (C.thx x1 x2 al) (C.thy x1 y1 x2 al) :=
 ⟨_,C.slope_ok hA hB hd,C.add_eq hA hB hd (C.slope_ok hA hB hd)⟩

theorem Cv.Sl.symm {x1 y1 x2 y2 al:Fin p} (h:C.Sl x1 y1 x2 y2 al):C.Sl x2 y2 x1 y1 al:=by
 obtain ⟨h1,h2⟩:=h
 exact ⟨by grind -lia,by grind -lia⟩
theorem Cv.thy_symm {x1 y1 x2 y2 al:Fin p} (h:C.Sl x1 y1 x2 y2 al):C.thy x2 y2 x1 al=C.thy x1 y1 x2 al:=by
 obtain ⟨h1,h2⟩:=h
 unfold Cv.thy Cv.thx
 grind -lia
theorem Cv.thx_symm {x1 x2 al:Fin p}:C.thx x2 x1 al=C.thx x1 x2 al:=by
 unfold Cv.thx
 grind -lia

theorem Cv.add_comm {A B:Pt p} (hA:C.on A) (hB:C.on B):C.add A B=C.add B A:=by
 cases A with
 | O=>cases B<;>rfl
 | A x1 y1=>cases B with
  | O=>rfl
  | A x2 y2 =>
   by_cases hd:x1=x2/\y1+y2=0
   ·simp only [Cv.add,if_pos hd,if_pos (show x2=x1/\y2+y1=0 by grind -lia)]
   ·obtain ⟨al,hs,e⟩:=C.sl_exists hA hB hd
    rw [e,C.add_eq hB hA (by grind -lia) hs.symm,C.thy_symm hs,C.thx_symm]

theorem Cv.sl_third {x1 y1 x2 y2 al:Fin p} (h:C.Sl x1 y1 x2 y2 al) :
  al*(y1+(y1+al*(C.thx x1 x2 al-x1)))=x1*x1+x1*C.thx x1 x2 al+C.thx x1 x2 al*C.thx x1 x2 al+C.a2*(x1+C.thx x1 x2 al)+C.a4:=by
 obtain ⟨h1,h2⟩:=h
 unfold Cv.thx
 grind -lia

theorem Cv.on_third {x1 y1 x2 y2 al:Fin p} (hA:C.on (.A x1 y1)) (h:C.Sl x1 y1 x2 y2 al):C.on (.A (C.thx x1 x2 al) (C.thy x1 y1 x2 al)):=by
 have k:=C.sl_third h
 simp only [Cv.on,Cv.thy] at hA ⊢
 generalize C.thx x1 x2 al=x at *
 have e : -(y1+al*(x-x1)) * -(y1+al*(x-x1))=y1*y1+(x-x1)*(al*(y1+(y1+al*(x-x1)))):=by grind -lia
 rw [e,k,hA]
 grind -lia

theorem Cv.on_add {A B:Pt p} (hA:C.on A) (hB:C.on B):C.on (C.add A B):=by
 cases A with
 | O=>exact hB
 | A x1 y1=>cases B with
  | O=>exact hA
  | A x2 y2 =>
   by_cases hd:x1=x2/\y1+y2=0
   ·simp only [Cv.add,if_pos hd]; trivial
   ·obtain ⟨al,hs,e⟩:=C.sl_exists hA hB hd
    rw [e]; exact C.on_third hA hs

theorem Cv.on_neg {A:Pt p} (hA:C.on A):C.on A.neg:=by
 cases A with
 | O=>trivial
 | A x y=>simp only [Cv.on,Pt.neg] at *; grind -lia
theorem Cv.add_neg (A:Pt p):C.add A A.neg = .O:=by
 cases A with
 | O=>rfl
 | A x y=>exact if_pos ⟨rfl,by grind -lia⟩

theorem Cv.neg_add {A B:Pt p} (hA:C.on A) (hB:C.on B):(C.add A B).neg=C.add A.neg B.neg:=by
 cases A with
 | O=>cases B<;>rfl
 | A x1 y1=>cases B with
  | O=>rfl
  | A x2 y2 =>
   by_cases hd:x1=x2/\y1+y2=0
   ·simp only [Cv.add,Pt.neg,if_pos hd,if_pos (show x1=x2 /\ -y1 + -y2=0 by grind -lia)]
   ·obtain ⟨al,hs,e⟩:=C.sl_exists hA hB hd
    have hs':C.Sl x1 (-y1) x2 (-y2) (-al):=by
     obtain ⟨h1,h2⟩:=hs
     exact ⟨by grind -lia,by grind -lia⟩
    have:=C.add_eq (C.on_neg hA) (C.on_neg hB) (by grind -lia) hs'
    simp only [Pt.neg]
    rw [e,this]
    simp only [Cv.thx,Cv.thy]
    have e1 : -al * -al=al*al:=by grind -lia
    rw [e1]
    congr 1
    grind -lia

theorem Cv.neg_add_cancel {A B:Pt p} (hA:C.on A) (hB:C.on B):C.add A.neg (C.add A B)=B:=by
 cases A with
 | O=>cases B<;>rfl
 | A x1 y1=>cases B with
  | O=>rw [C.add_comm (C.on_neg hA) (C.on_add hA hB)]; exact C.add_neg _
  | A x2 y2 =>
   by_cases hd:x1=x2/\y1+y2=0
   ·simp only [Cv.add,Pt.neg,if_pos hd]
    obtain ⟨rfl,e⟩:=hd
    congr 1; grind -lia
   ·obtain ⟨al,hs,e⟩:=C.sl_exists hA hB hd
    rw [e]
    have ho:=C.on_third hA hs
    have k:=C.sl_third hs
    have hn:=C.on_neg hA
    have hd2:¬ (x1=C.thx x1 x2 al /\ -y1+C.thy x1 y1 x2 al=0):=by
     rintro ⟨z1,z2⟩
     simp only [Cv.thy] at z2
     rw [← z1] at z2 k
     have z3:y1=0:=C.nz2 (by grind -lia)
     refine C.ns x1 ?_ ?_
     ·simp only [Cv.on] at hA; grind -lia
     ·grind -lia
    have hs':C.Sl x1 (-y1) (C.thx x1 x2 al) (C.thy x1 y1 x2 al) (-al):=by
     refine ⟨?_,?_⟩
     ·simp only [Cv.thy]; grind -lia
     ·rw [← k]; simp only [Cv.thy]; grind -lia
    show C.add (.A x1 (-y1)) _=_
    rw [C.add_eq hn ho hd2 hs']
    obtain ⟨h1,h2⟩:=hs
    have e1:C.thx x1 (C.thx x1 x2 al) (-al)=x2:=by simp only [Cv.thx]; grind -lia
    simp only [Cv.thy,e1]
    congr 1
    grind -lia

theorem Cv.add_neg_cancel {A B:Pt p} (hA:C.on A) (hB:C.on B):C.add A (C.add A.neg B)=B:=by
 have:=C.neg_add_cancel (C.on_neg hA) hB
 rwa [Pt.neg_neg] at this
theorem Cv.add_left {A B D:Pt p} (hA:C.on A) (hB:C.on B) (hD:C.on D) (h:C.add A B=C.add A D):B=D:=by
 rw [← C.neg_add_cancel hA hB,h,C.neg_add_cancel hA hD]

theorem Cv.slopes {x1 y1 x2 y2 x3 y3 al be ta:Fin p} (hab:C.Sl x1 y1 x2 y2 al) (hbc:C.Sl x2 y2 x3 y3 be) (hq:C.Sl x1 y1 (C.thx x2 x3 be) (C.thy x2 y2 x3 be) ta)
  (hd:¬ (x1=C.thx x2 x3 be/\y1+C.thy x2 y2 x3 be=0)):(ta+be)*(be-al)=x3-x1:=by
 obtain ⟨a1,a2⟩:=hab
 obtain ⟨b1,b2⟩:=hbc
 obtain ⟨q1,q2⟩:=hq
 have hX:C.thx x2 x3 be=be*be-C.a2-x2-x3:=rfl
 have hY:C.thy x2 y2 x3 be = -(y2+be*(C.thx x2 x3 be-x2)):=rfl
 generalize C.thy x2 y2 x3 be=Y at *
 generalize C.thx x2 x3 be=X at *
 by_cases e:x1=X
 ·have e2:y1=Y:=by
   have z:y1-Y=0:=by rw [q1,e]; exact mul_sub_self _ _
   exact eq_of_sub z
  have n1:y1+Y≠0:=fun z=>hd ⟨e,z⟩
  have e3:y1+Y=(be-al)*(x2-x1):=tang a1 hY e
  have n2:x2-x1≠0:=by
   intro z; rw [z] at e3; exact n1 (by grind -lia)
  refine C.cancel n2 ?_
  subst e
  rw [e3] at q2
  have h:y1+y2=be*(x2-x1):=by rw [e2,hY]; exact tang3 _ _ _ _
  rw [h] at a2
  rw [tang2 q2 a2]
  congr 1
  exact tang4 _ _ _ _ _ hX
 ·refine C.cancel (x:=X-x1) (fun z=>e (eq_of_sub z).symm) ?_
  have e5:(X-x1)*((ta+be)*(be-al))=(be*(X-x1)-ta*(x1-X))*(be-al):=gen0 _ _ _ _ _
  rw [e5,← q1,hY,gen1 a1]
  have g:=gen2 a1 a2 b1 b2
  rw [gen3,g,hX]
  exact gen4 _ _ _ _ _ _

theorem Cv.add_assoc {A B D:Pt p} (hA:C.on A) (hB:C.on B) (hD:C.on D):C.add (C.add A B) D=C.add A (C.add B D):=by
 cases A with
 | O=>cases B<;>rfl
 | A x1 y1=>cases B with
  | O=>rfl
  | A x2 y2=>cases D with
   | O=>rw [C.add_comm (C.on_add hA hB) hD]; rfl
   | A x3 y3 =>
    by_cases dab:x1=x2/\y1+y2=0
    ·have e:(Pt.A x1 y1)=(Pt.A x2 y2).neg:=by
      obtain ⟨rfl,e⟩:=dab
      simp only [Pt.neg]; congr 1; grind -lia
     rw [e,C.neg_add_cancel hB hD,C.add_comm (C.on_neg hB) hB,C.add_neg]; rfl
    by_cases dbc:x2=x3/\y2+y3=0
    ·have e:(Pt.A x3 y3)=(Pt.A x2 y2).neg:=by
      obtain ⟨rfl,e⟩:=dbc
      simp only [Pt.neg]; congr 1; grind -lia
     rw [e,C.add_neg,C.add_comm (C.on_add hA hB) (C.on_neg hB),C.add_comm hA hB,C.neg_add_cancel hB hA]; rfl
    obtain ⟨al,sab,eab⟩:=C.sl_exists hA hB dab
    obtain ⟨be,sbc,ebc⟩:=C.sl_exists hB hD dbc
    have oP:=C.on_third hA sab
    have oQ:=C.on_third hB sbc
    by_cases dp:C.thx x1 x2 al=x3/\C.thy x1 y1 x2 al+y3=0
    ·have e:(Pt.A x3 y3)=(C.add (.A x2 y2) (.A x1 y1)).neg:=by
      rw [C.add_comm hB hA,eab]
      obtain ⟨e1,e⟩:=dp
      simp only [Pt.neg]; rw [e1]; congr 1; grind -lia
     have e2:C.add (.A x2 y2) (.A x3 y3)=(Pt.A x1 y1).neg:=by
      rw [e,C.neg_add hB hA,C.add_neg_cancel hB (C.on_neg hA)]
     rw [e2,C.add_neg,e,C.add_comm hB hA,C.add_neg]
    by_cases dq:x1=C.thx x2 x3 be/\y1+C.thy x2 y2 x3 be=0
    ·have e:(Pt.A x1 y1)=(C.add (.A x2 y2) (.A x3 y3)).neg:=by
      rw [ebc]
      obtain ⟨e1,e⟩:=dq
      simp only [Pt.neg]; rw [e1]; congr 1; grind -lia
     have e2:C.add (.A x2 y2) (.A x1 y1)=(Pt.A x3 y3).neg:=by
      rw [e,C.neg_add hB hD,C.add_neg_cancel hB (C.on_neg hD)]
     rw [C.add_comm hA hB,e2,C.add_comm (C.on_neg hD) hD,C.add_neg]
     rw [e,C.add_comm (C.on_neg (C.on_add hB hD)) (C.on_add hB hD),C.add_neg]
    obtain ⟨ta,sq,eq⟩:=C.sl_exists hA oQ dq
    obtain ⟨ga,sp,ep⟩:=C.sl_exists oP hD dp
    have l1:=C.slopes sab sbc sq dq
    -- the other way about
    have sp':C.Sl x3 y3 (C.thx x2 x1 al) (C.thy x2 y2 x1 al) ga:=by
     rw [C.thx_symm,C.thy_symm sab]; exact sp.symm
    have l2:=C.slopes sbc.symm sab.symm sp' (by rw [C.thx_symm,C.thy_symm sab]; intro z; exact dp ⟨z.1.symm,by grind -lia⟩)
    by_cases eq2:be=al
    ·have e1:x3=x1:=by rw [eq2] at l1; grind -lia
     have e2:y3=y1:=by
      have h1:=sab.h1; have h2:=sbc.h1
      rw [e1,eq2] at h2; grind -lia
     subst e1 e2
     rw [C.add_comm hA hB,C.add_comm (C.on_add hB hA) hA]
    ·have hg:ga=ta+be-al:=by
      have n:be-al≠0:=by grind -lia
      have:(be-al)*(ga+al)=(be-al)*(ta+be):=by grind -lia
      have:=C.cancel n this
      grind -lia
     rw [eab,ebc,ep,eq]
     have h1:=sab.h1
     have h2:=sbc.h1
     have eX:C.thx (C.thx x1 x2 al) x3 ga=C.thx x1 (C.thx x2 x3 be) ta:=by
      simp only [Cv.thx]; rw [hg]; grind -lia
     rw [eX]
     congr 1
     have sps:=C.thy_symm sp
     rw [← sps]
     unfold Cv.thy
     rw [C.thx_symm (x1:=C.thx x1 x2 al),eX]
     simp only [Cv.thx]
     rw [hg]
     grind -lia
end
end Go.EC
