import Derived.Test.YtaaobpalpcdlbaaGreatNum13
namespace Go.Proofs.YtaaobpalpcdlbaaGreat.Bits
open Go Go.Sx Go.RowKit
set_option linter.unusedVariables false
theorem brT {b:Bool} {A B:Prop} (e:b=true) (h:A) (v:Bool) (hv:v=b):(v=true->A)/\(v=false->B):=by subst hv; exact ⟨fun _=>h,fun e'=>by rw [e] at e'; cases e'⟩
theorem rbF {b:Bool} {A B:Prop} (e:b=false) (h:B) (v:Bool) (hv:v=b):(v=false->B)/\(v=true->A):=by subst hv; exact ⟨fun _=>h,fun e'=>by rw [e] at e'; cases e'⟩
theorem rbT {b:Bool} {A B:Prop} (e:b=true) (h:A) (v:Bool) (hv:v=b):(v=false->B)/\(v=true->A):=by subst hv; exact ⟨fun e'=>(by rw [e] at e'; cases e'),fun _=>h⟩
theorem brF {b:Bool} {A B:Prop} (e:b=false) (h:B) (v:Bool) (hv:v=b):(v=true->A)/\(v=false->B):=by subst hv; exact ⟨fun e'=>(by rw [e] at e'; cases e'),fun _=>h⟩
theorem leq {x y:Int} (h:x=y):(limb x 0==limb y 0&&(limb x 1==limb y 1&&(limb x 2==limb y 2&&(limb x 3==limb y 3&&true))))=true:=by subst h; simp
theorem nleq {x y:Int} (h:x=y):(!(limb x 0==limb y 0&&(limb x 1==limb y 1&&(limb x 2==limb y 2&&(limb x 3==limb y 3&&true)))))=false:=by rw [leq h]; rfl
theorem bez:∀ m n:Nat,∃ x y:Int,(m:Int)*x+n*y=(Nat.gcd m n:Nat):=by
 intro m n
 induction m,n using Nat.gcd.induction with
 | H0 n=>exact ⟨0,1,by simp⟩
 | H1 m n hm ih =>
  obtain ⟨x,y,h⟩:=ih
  refine ⟨y-(n/m:Nat)*x,x,?_⟩
  rw [Nat.gcd_rec,← h]
  have e:((n%m:Nat):Int)=n-m*(n/m:Nat):=by
   have:=Nat.mod_add_div n m
   have:((n%m+m*(n/m):Nat):Int)=n:=by rw [this]
   push_cast at this ⊢
   omega
  rw [e]; grind
theorem invF_ok {a m:Int} (ha:0<=a) (hm:0<m) (g:Int.gcd a m=1):0<=invF a m/\invF a m<m/\m∣a*invF a m-1:=by
 obtain ⟨x,y,h⟩:=bez a.toNat m.toNat
 have e1:(a.toNat:Int)=a:=by omega
 have e2:(m.toNat:Int)=m:=by omega
 have e3:Nat.gcd a.toNat m.toNat=1:=by
  rw [← g]
  show _=Nat.gcd a.natAbs m.natAbs
  congr 1<;>omega
 rw [e1,e2,e3] at h
 have h0:=Int.emod_nonneg x (show m≠0 by omega)
 have h1:=Int.emod_lt_of_pos x hm
 have d:m∣a*(x%m)-1:=by
  refine ⟨-y-a*(x/m),?_⟩
  have:=Int.emod_def x m
  rw [this]
  have h:a*x+m*y=1:=h
  have:a*x=1-m*y:=by omega
  rw [Int.mul_sub,this]; grind
 rw [invF_eq h0 h1 d]
 exact ⟨h0,h1,d⟩
theorem mod_of_dvd {x m:Int} (h:m∣x-1):x%m=1%m:=by
 obtain ⟨k,hk⟩:=h
 rw [show x=1+m*k by omega,Int.add_mul_emod_self_left]
end Go.Proofs.YtaaobpalpcdlbaaGreat.Bits
