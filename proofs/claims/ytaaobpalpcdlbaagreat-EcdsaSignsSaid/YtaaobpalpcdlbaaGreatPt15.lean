import Derived.Test.YtaaobpalpcdlbaaGreatSxR
import Derived.Test.YtaaobpalpcdlbaaGreatProg
import Derived.Test.YtaaobpalpcdlbaaGreatPt14
import Derived.KernelRfl
namespace Go.Proofs.YtaaobpalpcdlbaaGreat.Bits
open Go Go.Sx Go.RowKit Go.EC
set_option linter.unusedVariables false
set_option maxRecDepth 100000
theorem dbl2 {P Q:Pt p256} (hP:C256.on P) (hQ:C256.on Q) (m l:Nat):C256.add (C256.add (C256.mul m P) (C256.mul l Q)) (C256.add (C256.mul m P) (C256.mul l Q))=C256.add (C256.mul (m+m) P) (C256.mul (l+l) Q):=by
 have om:=C256.on_mul hP m
 have ol:=C256.on_mul hQ l
 rw [C256.add_swap om ol om ol,← C256.mul_add hP,← C256.mul_add hQ]
theorem inc2 {P Q:Pt p256} (hP:C256.on P) (hQ:C256.on Q) (m l:Nat):C256.add (C256.add (C256.mul m P) (C256.mul l Q)) (C256.add P Q)=C256.add (C256.mul (m+1) P) (C256.mul (l+1) Q):=C256.add_swap (C256.on_mul hP m) (C256.on_mul hQ l) hP hQ
theorem incr {P Q:Pt p256} (hP:C256.on P) (hQ:C256.on Q) (m l:Nat):C256.add (C256.add (C256.mul m P) (C256.mul l Q)) Q=C256.add (C256.mul m P) (C256.mul (l+1) Q):=C256.add_assoc (C256.on_mul hP m) (C256.on_mul hQ l) hQ
theorem incl {P Q:Pt p256} (hP:C256.on P) (hQ:C256.on Q) (m l:Nat):C256.add (C256.add (C256.mul m P) (C256.mul l Q)) P=C256.add (C256.mul (m+1) P) (C256.mul l Q):=by
 have om:=C256.on_mul hP m
 have ol:=C256.on_mul hQ l
 rw [C256.add_assoc om ol hP,C256.add_comm ol hP,← C256.add_assoc om hP ol]
 rfl
theorem bit_nat {j:Int} {i:Nat} (hj:0<=j) (hi:i<=255):bitF j (i:Int)=((j.toNat/2^i%2:Nat):Int):=by
 unfold bitF
 rw [if_neg (by omega)]
 obtain ⟨n,rfl⟩:=Int.eq_ofNat_of_zero_le hj
 simp
theorem bs_RI {j k:Int} {A B:Sol} {P Q:Pt p256} (hA:RI A P) (hB:RI B Q) (hj:0<=j) (hk:0<=k) {L:Nat} (h256:L<=256) (bj:j.toNat<2^L) (bk:k.toNat<2^L):∀ n,n<=L ->
  RI (bsN j k (L:Int) A B (plI A B) n) (C256.add (C256.mul (j.toNat/2^(L-n)) P) (C256.mul (k.toNat/2^(L-n)) Q))
 | 0,_=>by
  rw [Nat.sub_zero,Nat.div_eq_of_lt bj,Nat.div_eq_of_lt bk]
  exact RI.O
 | n+1,hn=>by
  have ih:=bs_RI hA hB hj hk h256 bj bk n (by omega)
  have e1:∀ x:Nat,x/2^(L-n)=x/2^(L-(n+1))/2:=fun x=>by
   rw [Nat.div_div_eq_div_mul,← Nat.pow_succ,show (L-(n+1)).succ=L-n by omega]
  have ei:(L:Int)-1-(n:Int)=((L-(n+1):Nat):Int):=by omega
  rw [e1,e1] at ih
  simp only [bsN,ei,bit_nat hj (show L-(n+1)<=255 by omega),bit_nat hk (show L-(n+1)<=255 by omega)]
  generalize j.toNat/2^(L-(n+1))=w at *
  generalize k.toNat/2^(L-(n+1))=u at *
  have oP:=hA.on
  have oQ:=hB.on
  have t:=ih.twice
  rw [dbl2 oP oQ] at t
  by_cases cw:w%2=1
  ·by_cases cu:u%2=1
   ·rw [if_pos ⟨by omega,by omega⟩]
    have:=t.plus (hA.plus hB)
    rw [inc2 oP oQ,show w/2+w/2+1=w by omega,show u/2+u/2+1=u by omega] at this
    exact this
   ·rw [if_neg (by omega),if_pos (by omega)]
    have:=t.plus hA
    rw [incl oP oQ,show w/2+w/2+1=w by omega,show u/2+u/2=u by omega] at this
    exact this
  ·by_cases cu:u%2=1
   ·rw [if_neg (by omega),if_neg (by omega),if_pos (by omega)]
    have:=t.plus hB
    rw [incr oP oQ,show w/2+w/2=w by omega,show u/2+u/2+1=u by omega] at this
    exact this
   ·rw [if_neg (by omega),if_neg (by omega),if_neg (by omega)]
    rw [show w/2+w/2=w by omega,show u/2+u/2=u by omega] at t
    exact t
theorem bot_RI {j k:Int} {A B:Sol} {P Q:Pt p256} (hA:RI A P) (hB:RI B Q) (hj:0<=j/\j<115792089237316195423570985008687907853269984665640564039457584007913129639936) (hk:0<=k/\k<115792089237316195423570985008687907853269984665640564039457584007913129639936):RI (botF j k A B) (C256.add (C256.mul j.toNat P) (C256.mul k.toNat Q)):=by
 have lj:=lenF_lt hj.1
 have lk:=lenF_lt hk.1
 have mj:=(lenF_bound hj.1 256 (by have:=hj.2; exact this)).2
 have mk:=(lenF_bound hk.1 256 (by have:=hk.2; exact this)).2
 unfold botF
 obtain ⟨L,hL⟩:∃ L:Nat,max (lenF j) (lenF k)=(L:Int):=⟨(max (lenF j) (lenF k)).toNat,by omega⟩
 rw [hL]
 have pw:∀ {x:Int},0<=x->0<=lenF x->lenF x<=L->x<2^(lenF x).toNat->x.toNat<2^L:=by
  intro x x0 l0 l1 l2
  have a:(x.toNat:Int)<((2^(lenF x).toNat:Nat):Int):=by rw [Int.toNat_of_nonneg x0]; simpa using l2
  have b:2^(lenF x).toNat<=2^L:=Nat.pow_le_pow_right (by omega) (by omega)
  omega
 have r:=bs_RI hA hB hj.1 hk.1 (L:=L) (by omega) (pw hj.1 lj.1 (by omega) lj.2) (pw hk.1 lk.1 (by omega) lk.2) L (Nat.le_refl _)
 rw [Nat.sub_self,Nat.pow_zero,Nat.div_one,Nat.div_one] at r
 exact r
theorem mul_RI {k:Int} {A:Sol} {P:Pt p256} (hA:RI A P) (hk:0<=k/\k<115792089237316195423570985008687907853269984665640564039457584007913129639936):RI (mulF k A) (C256.mul k.toNat P):=by
 have:=bot_RI hA RI.O hk (k:=0) (by omega)
 rwa [C256.mul_O,C256.add_O] at this
theorem mulP {k:Int} {A:Pt p256} (hA:C256.on A) (hk:0<=k/\k<115792089237316195423570985008687907853269984665640564039457584007913129639936):pnX (mulF k (soF (cB A) (cX A) (cY A)))=cX (C256.mul k.toNat A)/\pnY (mulF k (soF (cB A) (cX A) (cY A)))=cY (C256.mul k.toNat A)/\pnB (mulF k (soF (cB A) (cX A) (cY A)))=cB (C256.mul k.toNat A):=pn_RI (mul_RI (so_c hA) hk)
theorem ordP {A:Pt p256} (hA:C256.on A):pnX (mulF 115792089210356248762697446949407573529996955224135760342422259061068512044369 (soF (cB A) (cX A) (cY A)))=cX .O/\pnY (mulF 115792089210356248762697446949407573529996955224135760342422259061068512044369 (soF (cB A) (cX A) (cY A)))=cY .O/\pnB (mulF 115792089210356248762697446949407573529996955224135760342422259061068512044369 (soF (cB A) (cX A) (cY A)))=cB .O:=by
 have:=mulP (k:=115792089210356248762697446949407573529996955224135760342422259061068512044369) hA (by decide)
 have e:(115792089210356248762697446949407573529996955224135760342422259061068512044369:Int).toNat=n256:=rfl
 rwa [e,order256 A hA] at this
theorem mul2P {A:Pt p256} (hA:C256.on A):pnX (mulF 2 (soF (cB A) (cX A) (cY A)))=cX (C256.add A A)/\pnY (mulF 2 (soF (cB A) (cX A) (cY A)))=cY (C256.add A A)/\pnB (mulF 2 (soF (cB A) (cX A) (cY A)))=cB (C256.add A A):=by
 have:=mulP (k:=2) hA (by decide)
 have e:C256.mul (2:Int).toNat A=C256.add A A:=by
  show C256.add (C256.mul 1 A) A=_
  rw [C256.mul_one]
 rwa [e] at this
theorem mul0P {A:Pt p256} (hA:C256.on A):pnX (mulF 0 (soF (cB A) (cX A) (cY A)))=cX .O/\pnY (mulF 0 (soF (cB A) (cX A) (cY A)))=cY .O/\pnB (mulF 0 (soF (cB A) (cX A) (cY A)))=cB .O:=mulP (k:=0) hA (by decide)
end Go.Proofs.YtaaobpalpcdlbaaGreat.Bits
