import Derived.Test.YtifbolmkiafmgaaSxT
namespace Go.Sx

structure St where
  ts : List SV
  df : List Nat
  hp : Hp

structure Inv where
  ι : Type
  T : ι → St
  R : ι → Prop
  μ : ι → Nat

abbrev Con := List SV → Hp → (SV → Hp → Prop) → Prop

structure Glob where
  P : Program
  w0 : World
  orc : FuncId → Option Con
  ann : FuncId → Nat → Option (St → Inv)
  cut : FuncId → Nat → Option (St → Inv)
  spl : FuncId → Nat → List (Tmp × List Int) := fun _ _ => []
  peel : FuncId → Nat → Bool := fun _ _ => false
  fix : FuncId → Nat → Option Bool := fun _ _ => none
  shape : FuncId → Nat → List (Nat × Nat) := fun _ _ => []
  calm : FuncId → Bool := fun _ => false

structure Cx where
  fn : FuncId
  blk : Nat
  rd : Option Nat
  lo : Nat

structure Rec where
  code : Cx → Code → St → (Exit → St → Prop) → Prop
  call : FuncId → List SV → Hp → (SV → Hp → Prop) → Prop
  loop : Cx → Code → St → (Exit → St → Prop) → Prop

def snEq : SN → SN → Bool | .lit a, .lit b => Nat.beq a b | .ltr a, .ltr b => Nat.beq a b | _, _ => false
def snP : SN → SN → Prop | .lit a, .lit b => (match Nat.beq a b with | true => True | false => False) | .ltr a, .ltr b => (match Nat.beq a b with | true => True | false => False) | .num a, .num b => a = b | _, _ => False
def stEq : ST → ST → Bool | .full, .full => true | .ltr a x, .ltr b y => (match Nat.beq a b with | true => Nat.beq x y | false => false) | _, _ => false
mutual
def eqW : SV → SV → Prop
  | .bool a, .bool b => a.val = b.val
  | .int k a, .int l b => (match kEq k l with | true => a.val = b.val | false => False)
  | .str a, .str b => a.val = b.val
  | .ptr a i, .ptr b j => (match Nat.beq a b, Nat.beq i j with | true, true => True | _, _ => False)
  | .slice a i l c, .slice b j m d => (match Nat.beq a b, Nat.beq i j, Nat.beq l m, snEq c d with | true, true, true, true => True | _, _, _, _ => False)
  | .fn f cs, .fn g ds => (match Nat.beq f g with | true => eqWs cs ds | false => False)
  | .mth f cs, .mth g ds => (match Nat.beq f g with | true => eqWs cs ds | false => False)
  | .yld a, .yld b => (match Nat.beq a b with | true => True | false => False)
  | .agg cs, .agg ds => eqWs cs ds
  | .tup cs, .tup ds => eqWs cs ds
  | .val v, .val w => v = w
  | .slice a 0 l c, .fsl b n d => (match Nat.beq a b with | true => (l : Int) = n ∧ snP c d | false => False)
  | .fsl a n c, .fsl b m d => (match Nat.beq a b with | true => n = m ∧ snP c d | false => False)
  | .fptr a i z o, .fptr b j y u => (match Nat.beq a b, Nat.beq z y, Nat.beq o u with | true, true, true => i = j | _, _, _ => False)
  | .bsl a n c _, .bsl b m d _ => a = b ∧ n = m ∧ c = d
  | .bptr a i o fs, .bptr b j u gs => (match Nat.beq o u, Nat.beq fs.length gs.length with | true, true => a = b ∧ i = j | _, _ => False)
  | .osl a i z n c, .osl b j y m d => (match Nat.beq a b, Nat.beq z y with | true, true => i = j ∧ n = m ∧ c = d | _, _ => False)
  | _, _ => False
def eqWs : List SV → List SV → Prop
  | [], [] => True
  | c :: cs, d :: ds => eqW c d ∧ eqWs cs ds
  | _, _ => False
end
def leV : List SV → List SV → Prop
  | [], [] => True
  | _ :: xs, .any :: ys => leV xs ys
  | x :: xs, y :: ys => eqW x y ∧ leV xs ys
  | _, _ => False
def sameCode (a b : Code) : Prop := a = b
def lsEq : LoopState → LoopState → Bool
  | .ready, .ready => true
  | .busy, .busy => true
  | .done, .done => true
  | .exhausted, .exhausted => true
  | _, _ => false
def eqNs : List Nat → List Nat → Bool
  | [], [] => true
  | x :: r, y :: q => match Nat.beq x y with | true => eqNs r q | false => false
  | _, _ => false
def eqFC (fc : FC) (i : Int) (v : SV) : Prop :=
  match fc, v with
  | .int k f, .int l n => (match kEq k l with | true => n.val = f i | false => False)
  | .bool f, .bool b => b.val = f i
  | .str f, .str b => b.val = f i
  | _, _ => False
def eqRow : List FC → Int → List SV → (List SV → Prop) → Prop
  | [], _, cs, K => K cs
  | fc :: r, i, c :: cs, K => eqFC fc i c ∧ eqRow r i cs K
  | _ :: _, _, [], _ => False
def eqRows (fs : List FC) : Nat → Int → List SV → Prop
  | 0, _, cs => (match cs with | [] => True | _ => False)
  | n + 1, i, cs => eqRow fs i cs fun cs => eqRows fs n (i + 1) cs
def eqFCs (n : Int) : List FC → List FC → Prop
  | [], [] => True
  | .int k f :: r, .int l g :: q => (match kEq k l with | true => (∀ i : Int, 0 ≤ i → i < n → f i = g i) ∧ eqFCs n r q | false => False)
  | .bool f :: r, .bool g :: q => (∀ i : Int, 0 ≤ i → i < n → f i = g i) ∧ eqFCs n r q
  | .str f :: r, .str g :: q => (∀ i : Int, 0 ≤ i → i < n → f i = g i) ∧ eqFCs n r q
  | _, _ => False
def leB : SBk → SBk → Prop
  | .cells xs t tl, .fblk n fs u ul => (match Nat.beq t u, stEq tl ul, fs with | true, true, _ :: _ => n * (fs.length : Int) = (xs.length : Int) ∧ eqRows fs (xs.length / fs.length) 0 xs | _, _, _ => False)
  | .fblk m gs t tl, .fblk n fs u ul => (match Nat.beq t u, stEq tl ul with | true, true => m = n ∧ eqFCs n gs fs | _, _ => False)
  | .cells xs t tl, .cells ys u ul => (match Nat.beq t u, stEq tl ul with | true, true => leV xs ys | _, _ => False)
  | .loop st none ts ps asg body db, .loop st' none ts' ps' asg' body' db' => (match lsEq st st', eqNs ps.toList ps'.toList, Nat.beq db db' with | true, true, true => leV ts ts' ∧ sameCode asg asg' ∧ sameCode body body' | _, _, _ => False)
  | .dfr, .dfr => True
  | _, _ => False
def leH : Hp → Hp → Prop
  | _, [] => True
  | _ :: xs, none :: ys => leH xs ys
  | some x :: xs, some y :: ys => leB x y ∧ leH xs ys
  | _, _ => False
def allLt : List Nat → Nat → Bool
  | [], _ => true
  | d :: r, n => match Nat.blt d n with | true => allLt r n | false => false
def leS0 (lo : Nat) (S T : St) : Prop := match eqNs S.df T.df, Nat.ble lo T.hp.length, allLt T.df T.hp.length with | true, true, true => leV S.ts T.ts ∧ leH S.hp T.hp | _, _, _ => False

def swN (x y i : Nat) : Nat := match Nat.beq i x with | true => y | false => (match Nat.beq i y with | true => x | false => i)
def renC (x y : Nat) : SN → SN
  | .ltr k => .ltr (swN x y k)
  | c => c
def renT (x y : Nat) : ST → ST
  | .ltr k z => .ltr (swN x y k) z
  | .full => .full
mutual
def renV (x y : Nat) : SV → SV
  | .ptr b o => .ptr (swN x y b) o
  | .slice b o l c => .slice (swN x y b) o l (renC x y c)
  | .fn f cs => .fn f (renVs x y cs)
  | .mth f cs => .mth f (renVs x y cs)
  | .yld b => .yld (swN x y b)
  | .agg cs => .agg (renVs x y cs)
  | .tup cs => .tup (renVs x y cs)
  | .fsl b n c => .fsl (swN x y b) n (renC x y c)
  | .fptr b i z o => .fptr (swN x y b) i z o
  | .osl b o z n c => .osl (swN x y b) o z n c
  | v => v
def renVs (x y : Nat) : List SV → List SV
  | [] => []
  | c :: r => renV x y c :: renVs x y r
end
def renB (x y : Nat) : SBk → SBk
  | .cells cs t tl => .cells (renVs x y cs) t (renT x y tl)
  | .loop st pe ts ps asg body db => .loop st pe (renVs x y ts) ps asg body (swN x y db)
  | .dfr => .dfr
  | .fblk n fs t tl => .fblk n fs t (renT x y tl)
def renH (x y : Nat) : Hp → Hp
  | [] => []
  | none :: r => none :: renH x y r
  | some b :: r => some (renB x y b) :: renH x y r
def swH (x y : Nat) (hp : Hp) : Hp := renH x y (hput (hput hp x (hget hp y)) y (hget hp x))
def swL (x y : Nat) : List Nat → List Nat
  | [] => []
  | d :: r => swN x y d :: swL x y r
def misC : SN → SN → List (Nat × Nat)
  | .ltr a, .ltr b => [(a, b)]
  | _, _ => []
def misT : ST → ST → List (Nat × Nat)
  | .ltr a _, .ltr b _ => [(a, b)]
  | _, _ => []
def misV : SV → SV → List (Nat × Nat)
  | .ptr a _, .ptr b _ => [(a, b)]
  | .slice a _ _ c, .slice b _ _ d => (a, b) :: misC c d
  | .slice a _ _ c, .fsl b _ d => (a, b) :: misC c d
  | .fsl a _ c, .fsl b _ d => (a, b) :: misC c d
  | .fptr a _ _ _, .fptr b _ _ _ => [(a, b)]
  | .osl a _ _ _ _, .osl b _ _ _ _ => [(a, b)]
  | _, _ => []
def misL : List SV → List SV → List (Nat × Nat)
  | x :: xs, y :: ys => misV x y ++ misL xs ys
  | _, _ => []
def misH : Hp → Hp → List (Nat × Nat)
  | some (.cells xs _ t) :: r, some (.cells ys _ u) :: q => misT t u ++ (misL xs ys ++ misH r q)
  | some (.cells _ _ t) :: r, some (.fblk _ _ _ u) :: q => misT t u ++ misH r q
  | some (.fblk _ _ _ t) :: r, some (.fblk _ _ _ u) :: q => misT t u ++ misH r q
  | _ :: r, _ :: q => misH r q
  | _, _ => []
def fstMis (lo n : Nat) : List (Nat × Nat) → Option (Nat × Nat)
  | [] => none
  | (a, b) :: r => match Nat.beq a b, Nat.ble lo a, Nat.ble lo b, Nat.blt a n, Nat.blt b n with
    | false, true, true, true, true => some (a, b)
    | _, _, _, _, _ => fstMis lo n r
def renS (lo : Nat) : Nat → St → St → St
  | 0, S, _ => S
  | k + 1, S, T => match fstMis lo S.hp.length (misL S.ts T.ts ++ misH S.hp T.hp) with
    | none => S
    | some (a, b) => renS lo k ⟨renVs a b S.ts, swL a b S.df, swH a b S.hp⟩ T
def leS (lo : Nat) (S T : St) : Prop := leS0 lo (renS lo 8 S T) T

def rfAll : Code → List (Code × Code)
  | .seq a b => rfAll a ++ rfAll b
  | .cond _ a b => rfAll a ++ rfAll b
  | .block _ c => rfAll c
  | .loop c => rfAll c
  | .scope c => rfAll c
  | .rangeFunc _ _ asg body => (asg, body) :: rfAll body
  | _ => []
def rfAt (P : Program) (f k : Nat) : Code × Code := match P.funcs[f]? with
  | some g => (match g.body with | some c => (rfAll c).getD k (.skip, .skip) | none => (.skip, .skip))
  | none => (.skip, .skip)

mutual
def forceV : SV → (SV → Prop) → Prop
  | .any, k => k .any
  | .bool (.lit b), k => (match b with | true => k (.bool (.lit true)) | false => k (.bool (.lit false)))
  | .bool (.sym b), k => k (.bool (.sym b))
  | .int kd (.lit n), k => (match n with | .ofNat m => k (.int kd (.lit (.ofNat m))) | .negSucc m => k (.int kd (.lit (.negSucc m))))
  | .int kd (.sym n), k => k (.int kd (.sym n))
  | .str (.lit n), k => k (.str (.lit n))
  | .str (.sym n), k => k (.str (.sym n))
  | .ptr b o, k => k (.ptr b o)
  | .slice b o l c, k => k (.slice b o l c)
  | .fn f cs, k => forceVs cs fun cs => k (.fn f cs)
  | .mth f cs, k => forceVs cs fun cs => k (.mth f cs)
  | .yld b, k => k (.yld b)
  | .agg cs, k => forceVs cs fun cs => k (.agg cs)
  | .tup cs, k => forceVs cs fun cs => k (.tup cs)
  | .val v, k => k (.val v)
  | .fsl b n c, k => k (.fsl b n c)
  | .fptr b i z o, k => k (.fptr b i z o)
  | .bsl a n c fs, k => k (.bsl a n c fs)
  | .bptr a i o fs, k => k (.bptr a i o fs)
  | .osl b o z n c, k => k (.osl b o z n c)
def forceVs : List SV → (List SV → Prop) → Prop
  | [], k => k []
  | c :: r, k => forceV c fun c => forceVs r fun r => k (c :: r)
end
def forceHp : Hp → (Hp → Prop) → Prop
  | [], k => k []
  | none :: r, k => forceHp r fun r => k (none :: r)
  | some b :: r, k => (match b with
    | .cells cs t tl => forceVs cs fun cs => forceHp r fun r => k (some (.cells cs t tl) :: r)
    | .loop st pe ts ps asg body db => forceVs ts fun ts => forceHp r fun r => k (some (.loop st pe ts ps asg body db) :: r)
    | .dfr => forceHp r fun r => k (some .dfr :: r)
    | .fblk n fs t tl => forceHp r fun r => k (some (.fblk n fs t tl) :: r))
def forceS (S : St) (k : St → Prop) : Prop := forceVs S.ts fun ts => forceHp S.hp fun hp => k ⟨ts, S.df, hp⟩
def putF : List SV → Nat → SV → (List SV → Prop) → Prop
  | [], _, _, k => k []
  | _ :: r, 0, v, k => k (v :: r)
  | c :: r, i + 1, v, k => putF r i v fun r => k (c :: r)

mutual
theorem forceV_eq : ∀ (v : SV) (k : SV → Prop), forceV v k = k v
  | .any, k => rfl
  | .bool (.lit b), k => by cases b <;> rfl
  | .bool (.sym b), k => rfl
  | .int kd (.lit n), k => by cases n <;> rfl
  | .int kd (.sym n), k => rfl
  | .str (.lit n), k => rfl
  | .str (.sym n), k => rfl
  | .ptr b o, k => rfl
  | .slice b o l c, k => rfl
  | .fn f cs, k => by simp only [forceV]; exact forceVs_eq cs _
  | .mth f cs, k => by simp only [forceV]; exact forceVs_eq cs _
  | .yld b, k => rfl
  | .agg cs, k => by simp only [forceV]; exact forceVs_eq cs _
  | .tup cs, k => by simp only [forceV]; exact forceVs_eq cs _
  | .val v, k => rfl
  | .fsl b n c, k => rfl
  | .fptr b i z o, k => rfl
  | .bsl a n c fs, k => rfl
  | .bptr a i o fs, k => rfl
  | .osl b o z n c, k => rfl
theorem forceVs_eq : ∀ (l : List SV) (k : List SV → Prop), forceVs l k = k l
  | [], k => rfl
  | c :: r, k => by simp only [forceVs]; rw [forceV_eq c, forceVs_eq r]
end
theorem forceHp_eq : ∀ (l : Hp) (k : Hp → Prop), forceHp l k = k l
  | [], k => rfl
  | none :: r, k => by simp only [forceHp]; rw [forceHp_eq r]
  | some b :: r, k => by cases b <;> simp only [forceHp, forceVs_eq] <;> rw [forceHp_eq r]
theorem forceS_eq (S : St) (k : St → Prop) : forceS S k = k S := by simp only [forceS, forceVs_eq, forceHp_eq]
theorem putF_eq : ∀ (l : List SV) (i : Nat) (v : SV) (k : List SV → Prop), putF l i v k = k (put l i v)
  | [], _, _, k => rfl
  | _ :: r, 0, v, k => rfl
  | c :: r, i + 1, v, k => by simp only [putF, put]; rw [putF_eq r]

def putDst (ts : List SV) (dst : Option Tmp) (v : SV) : List SV := match dst with | some d => put ts d v | none => ts
def putDstF (ts : List SV) (dst : Option Tmp) (v : SV) (k : List SV → Prop) : Prop := match dst with | some d => putF ts d v k | none => k ts
theorem putDstF_eq (ts : List SV) (dst : Option Tmp) (v : SV) (k : List SV → Prop) : putDstF ts dst v k = k (putDst ts dst v) := by
  cases dst with
  | none => rfl
  | some d => exact putF_eq ts d v k

def isRead (o : Oper) : Bool :=
  match o.op with
  | .store .. => false
  | .convert .. => false
  | .call c => match c.callee with
    | .builtin b => match b with | .len => true | .min => true | .max => true | _ => false
    | _ => false
  | _ => true

inductive Gd where | yes | no | ask (d : Nat) (b want : Bool) | bad
def guardOf (ops : Array Oper) (ts : List SV) (o : Oper) : Gd :=
  match o.guard with
  | none => .yes
  | some (j, want) =>
    match ops.toList[j]? with
    | none => .no
    | some oj => match oj.dst with
      | none => .no
      | some d => match nth ts d with
        | .any => .bad
        | .bool (.lit b) => match b, want with | true, true => .yes | false, false => .yes | _, _ => .no
        | .bool (.sym b) => .ask d b want
        | .val v => match v with | .bool _ => .bad | _ => .no
        | _ => .no

def sStore (P : Program) (hp : Hp) (t : TypeId) (p v : SV) (K : Hp → Prop) : Prop :=
  match p with
  | .ptr b o => match hget hp b with
    | some (.cells cs ty tl) => match szOf P t with
      | some n => match Nat.beq v.cellsL.length n, Nat.ble (o + v.cellsL.length) cs.length, allScalar v.cellsL with
        | true, true, true => K (hput hp b (some (.cells (spl cs o v.cellsL) ty tl)))
        | _, _, _ => False
      | none => False
    | some (.fblk n [fc] ty tl) => match szOf P t with
      | some m => (match Nat.beq v.cellsL.length m with | true => (((o + m : Nat) : Int) ≤ n) ∧ setRow fc (o : Int) v.cellsL fun fc' => K (hput hp b (some (.fblk n [fc'] ty tl))) | false => False)
      | none => False
    | _ => False
  | .fptr b i z o => match hget hp b with
    | some (.fblk n fs ty tl) => match szOf P t with
      | some m => (match Nat.beq v.cellsL.length m, Nat.beq z fs.length with
        | true, true => (match fs, o with
          | [fc], 0 => (0 ≤ i ∧ i + (m : Int) ≤ n) ∧ setRow fc i v.cellsL fun fc' => K (hput hp b (some (.fblk n [fc'] ty tl)))
          | fs, o => (0 ≤ i ∧ i < n) ∧ setAt i o fs v.cellsL fun fs' => K (hput hp b (some (.fblk n fs' ty tl))))
        | _, _ => False)
      | none => False
    | _ => False
  | _ => False

def setLoop (st : LoopState) (pe : Option Code) : SBk → Option SBk
  | .loop _ _ ts ps asg body db => some (.loop st pe ts ps asg body db)
  | _ => none
def isReady : LoopState → Bool | .ready => true | _ => false
def isBusy : LoopState → Bool | .busy => true | _ => false

def putAll (ts : List SV) : List Tmp → List SV → List SV
  | p :: ps, v :: vs => putAll (put ts p v) ps vs
  | _, _ => ts

def exRound (r : Rec) (cx : Cx) (b : Nat) (args : List SV) (hp : Hp) (K : SV → Hp → Prop) : Prop :=
  match hget hp b with
  | some (.loop st _ ts ps asg body _) =>
    match isReady st, Nat.beq args.length ps.toList.length with
    | true, true =>
      forceVs (putAll ts ps.toList args) fun ts => r.code { cx with rd := some b, lo := hp.length } asg ⟨ts, [], hp⟩ fun e S =>
        match e with
        | .normal =>
          match hget S.hp b with
          | some (.loop st1 pe1 ts1 ps1 asg1 body1 db1) =>
            match isReady st1 with
            | true =>
              forceHp (hput S.hp b (some (.loop .busy pe1 ts1 ps1 asg1 body1 db1))) fun hp1 => r.code { cx with rd := some b, lo := hp.length } body ⟨S.ts, S.df, hp1⟩ fun e S2 =>
                match hget S2.hp b with
                | some (.loop _ _ ts2 ps2 asg2 body2 db2) =>
                  match e with
                  | .normal => K (.bool (.lit true)) (hput S2.hp b (some (.loop .ready none ts2 ps2 asg2 body2 db2)))
                  | .ret => K (.bool (.lit false)) (hput S2.hp b (some (.loop .done (some .ret) ts2 ps2 asg2 body2 db2)))
                  | .exit id => K (.bool (.lit false)) (hput S2.hp b (some (.loop .done (some (.exit id)) ts2 ps2 asg2 body2 db2)))
                  | _ => False
                | _ => False
            | false => False
          | _ => False
        | _ => False
    | _, _ => False
  | _ => False

def exEff (G : Glob) (r : Rec) (cx : Cx) (o : Oper) (ts : List SV) (hp : Hp) (K : SV → Hp → Prop) : Prop :=
  match o.op with
  | .store t a x => sStore G.P hp t (evo ts a) (evo ts x) (K (.val undef))
  | .call c => match c.callee with
    | .value f => match evo ts f with
      | .fn g cap => r.call g (c.args.toList.map (evo ts) ++ cap) hp K
      | .mth g fs => r.call g (fs ++ c.args.toList.map (evo ts)) hp K
      | .yld b => exRound r cx b (c.args.toList.map (evo ts)) hp K
      | _ => False
    | .builtin b => (match b, c.args.toList with
      | .append, [s, x] => (match evo ts x with
        | .str (.sym b) => sAppStr G.P hp c.argTypes.toList (evo ts s) b K
        | y => (match isFnS y with
          | true => sAppFn G.P G.w0 hp c.argTypes.toList (evo ts s) y K
          | false => (match isMany (evo ts s) y with
            | true => sAppMany G.P hp c.argTypes.toList (evo ts s) y K
            | false => sAppend G.P hp c.argTypes.toList (evo ts s) y K)))
      | .copy, [d, x] => (match isFnS (evo ts x) with
        | true => sCopyFn G.P G.w0 hp c.argTypes.toList (evo ts d) (evo ts x) K
        | false => sCopy G.P hp c.argTypes.toList (evo ts d) (evo ts x) K)
      | .unsafeSliceData, [x] => sSlData hp (evo ts x) K
      | .unsafeString, [p, n] => sUnStr G.P hp c.argTypes.toList (evo ts p) (evo ts n) K
      | _, _ => False)
    | _ => False
  | .convert s d x => sConvE G.P hp s d (evo ts x) K
  | _ => False

def okAlloc (ts : List SV) (hp : Hp) (b : SBk) : Bool :=
  match okHp (ltb hp.length) hp, SV.allvs (ltb hp.length) ts, b.allb (ltb hp.length) with
  | true, true, true => true
  | _, _, _ => false

def askK (f : Option Bool) (b want : Bool) (A B : Prop) : Prop :=
  match f with
  | none => (b = want → A) ∧ (b = !want → B)
  | some true => b = true ∧ (match want with | true => A | false => B)
  | some false => b = false ∧ (match want with | true => B | false => A)
theorem askK_both {f : Option Bool} {b want : Bool} {A B : Prop} (h : askK f b want A B) : (b = want → A) ∧ (b = !want → B) := by
  unfold askK at h
  split at h
  · exact h
  · obtain ⟨h1, h2⟩ := h
    subst h1
    cases want
    · exact ⟨fun e => by simp at e, fun _ => h2⟩
    · exact ⟨fun _ => h2, fun e => by simp at e⟩
  · obtain ⟨h1, h2⟩ := h
    subst h1
    cases want
    · exact ⟨fun _ => h2, fun e => by simp at e⟩
    · exact ⟨fun e => by simp at e, fun _ => h2⟩

def exOps (G : Glob) (r : Rec) (cx : Cx) (ops : Array Oper) : List Oper → St → (St → Prop) → Prop
  | [], S, K => K S
  | o :: rest, S, K =>
    match S with
    | ⟨sts, sdf, shp⟩ =>
    let run (ts : List SV) : Prop :=
      match opsOk ts o with
      | false => False
      | true =>
        match isRead o with
        | true => sRead G.P G.w0 ts shp o fun v nb =>
          forceV v fun v => putDstF ts o.dst v fun ts' =>
          match nb with
          | none => exOps G r cx ops rest ⟨ts', sdf, shp⟩ K
          | some b => match okAlloc ts shp b with
            | true => forceHp (shp ++ [some b]) fun hp' => exOps G r cx ops rest ⟨ts', sdf, hp'⟩ K
            | false => False
        | false => match SV.allvs (ltb shp.length) ts with
          | true => exEff G r cx o ts shp fun v hp' => forceV v fun v => putDstF ts o.dst v fun ts' => forceHp hp' fun hp' => exOps G r cx ops rest ⟨ts', sdf, hp'⟩ K
          | false => False
    let skip (ts : List SV) : Prop := putDstF ts o.dst (.val undef) fun ts' => exOps G r cx ops rest ⟨ts', sdf, shp⟩ K
    match guardOf ops sts o with
    | .yes => run sts
    | .no => skip sts
    | .ask d b want => askK (G.fix cx.fn d) b want (putF sts d (.bool (.lit want)) run) (putF sts d (.bool (.lit (!want))) skip)
    | .bad => False

theorem exOps_cons (G : Glob) (r : Rec) (cx : Cx) (ops : Array Oper) (o : Oper) (rest : List Oper) (S : St) (K : St → Prop) : exOps G r cx ops (o :: rest) S K = (
    let run (ts : List SV) : Prop :=
      match opsOk ts o with
      | false => False
      | true =>
        match isRead o with
        | true => sRead G.P G.w0 ts S.hp o fun v nb =>
          forceV v fun v => putDstF ts o.dst v fun ts' =>
          match nb with
          | none => exOps G r cx ops rest ⟨ts', S.df, S.hp⟩ K
          | some b => match okAlloc ts S.hp b with
            | true => forceHp (S.hp ++ [some b]) fun hp' => exOps G r cx ops rest ⟨ts', S.df, hp'⟩ K
            | false => False
        | false => match SV.allvs (ltb S.hp.length) ts with
          | true => exEff G r cx o ts S.hp fun v hp' => forceV v fun v => putDstF ts o.dst v fun ts' => forceHp hp' fun hp' => exOps G r cx ops rest ⟨ts', S.df, hp'⟩ K
          | false => False
    let skip (ts : List SV) : Prop := putDstF ts o.dst (.val undef) fun ts' => exOps G r cx ops rest ⟨ts', S.df, S.hp⟩ K
    match guardOf ops S.ts o with
    | .yes => run S.ts
    | .no => skip S.ts
    | .ask d b want => askK (G.fix cx.fn d) b want (putF S.ts d (.bool (.lit want)) run) (putF S.ts d (.bool (.lit (!want))) skip)
    | .bad => False) := by cases S; rfl

def memN : Nat → List Nat → Bool
  | _, [] => false
  | x, y :: r => match Nat.beq x y with | true => true | false => memN x r

def restrict.go (fp : List Nat) (i : Nat) : Hp → Hp
  | [] => []
  | b :: r => (match memN i fp with | true => b | false => none) :: restrict.go fp (i + 1) r
def restrict (hp : Hp) (fp : List Nat) : Hp := restrict.go fp 0 hp
def mergeH.go (fp : List Nat) (i : Nat) : Hp → Hp → Hp
  | b :: r, b' :: r' => (match memN i fp with | true => b' | false => b) :: mergeH.go fp (i + 1) r r'
  | [], r' => r'
  | r, [] => r
def mergeH (hp hp' : Hp) (fp : List Nat) : Hp := mergeH.go fp 0 hp hp'

mutual
def idsV : SV → List Nat
  | .ptr b _ => [b]
  | .slice b _ _ c => (match c with | .ltr k => [b, k] | _ => [b])
  | .fsl b _ c => (match c with | .ltr k => [b, k] | _ => [b])
  | .fptr b _ _ _ => [b]
  | .osl b _ _ _ _ => [b]
  | .fn _ cs => idsL cs
  | .mth _ cs => idsL cs
  | .yld b => [b]
  | .agg cs => idsL cs
  | .tup cs => idsL cs
  | _ => []
def idsL : List SV → List Nat
  | [] => []
  | c :: r => idsV c ++ idsL r
end
def idsB : Option SBk → List Nat
  | some (.cells cs _ tl) => (match tl with | .full => idsL cs | .ltr k _ => k :: idsL cs)
  | some (.loop _ _ ts _ _ _ db) => db :: idsL ts
  | some (.fblk _ _ _ tl) => (match tl with | .full => [] | .ltr k _ => [k])
  | _ => []
def reach (hp : Hp) : Nat → List Nat → List Nat → List Nat
  | 0, seen, _ => seen
  | _ + 1, seen, [] => seen
  | n + 1, seen, b :: todo => match memN b seen with
    | true => reach hp n seen todo
    | false => reach hp n (b :: seen) (idsB (hget hp b) ++ todo)

structure Ev where
  fp : List Nat
  wr : Bool
  n : Nat
  n' : Nat

def fblkIds (hp : Hp) : SV → List Nat
  | .ptr b _ => (match isFb hp b with | some _ => [b] | none => [])
  | _ => []
def fslIds : SV → List Nat
  | .fsl b n c => idsV (.fsl b n c)
  | _ => []
def fpRead (ts : List SV) (hp : Hp) (o : Oper) : List Nat :=
  match o.op with
  | .load _ a => idsV (evo ts a)
  | .indexAddr _ x _ => fblkIds hp (evo ts x)
  | .slice _ x _ _ _ => fslIds (evo ts x) ++ fblkIds hp (evo ts x)
  | _ => []
def fpEff (ts : List SV) (hp : Hp) (o : Oper) : List Nat :=
  match o.op with
  | .store _ a _ => idsV (evo ts a)
  | _ => reach hp (1000 + hp.length) [] (idsL (o.op.operands.toList.map (evo ts)))

def namesOf (ops : Array Oper) (o : Oper) : List Nat :=
  (match o.dst with | some d => [d] | none => []) ++
  (o.op.operands.toList.filterMap fun | .tmp t => some t | _ => none) ++
  (match o.guard with | some (j, _) => (match ops.toList[j]? with | some oj => (match oj.dst with | some d => [d] | none => []) | none => []) | none => [])
def disj : List Nat → List Nat → Bool
  | [], _ => true
  | x :: r, l => match memN x l with | true => false | false => disj r l

def dstL (o : Oper) : List Nat := match o.dst with | some d => [d] | none => []
def outOf (n n' : Nat) : List Nat → Bool
  | [] => true
  | b :: r => match Nat.ble n b, Nat.blt b n' with | true, true => false | _, _ => outOf n n' r
def apartB (ops : Array Oper) (oi oj : Oper) (ei ej : Ev) : Bool :=
  match disj (dstL oi) (namesOf ops oj), disj (dstL oj) (namesOf ops oi), outOf ei.n ei.n' ej.fp with
  | true, true, true => match ei.wr, ej.wr with
    | false, false => true
    | _, _ => disj ei.fp ej.fp
  | _, _, _ => false

def maskE : List Edge → List Nat → Nat
  | [], _ => 0
  | e :: r, acc => match Region.binds .any e with
    | true => (2 ^ e.on ||| acc.getD e.on 0) ||| maskE r acc
    | false => maskE r acc
def befL : List Oper → List Nat → List Nat
  | [], acc => acc
  | o :: r, acc => befL r (acc ++ [maskE o.after.toList acc])

def edgesLt (j : Nat) : List Edge → Bool
  | [] => true
  | e :: r => match Region.binds .any e, Nat.blt e.on j with | true, false => false | _, _ => edgesLt j r
def edgesOk : Nat → List Oper → Bool
  | _, [] => true
  | j, o :: r => match edgesLt j o.after.toList with | true => edgesOk (j + 1) r | false => false

def chkRow (ops : Array Oper) (bj : Nat) (oj : Oper) (ej : Ev) : Nat → List Oper → List Ev → Bool
  | i, oi :: os, ei :: es => match Nat.testBit bj i with
    | true => chkRow ops bj oj ej (i + 1) os es
    | false => match apartB ops oi oj ei ej with
      | true => chkRow ops bj oj ej (i + 1) os es
      | false => false
  | _, _, _ => true
def chkReg (ops : Array Oper) (bs : List Nat) (done : List Oper) (devs : List Ev) : List Oper → List Ev → Bool
  | oj :: os, ej :: es => match chkRow ops (bs.headD 0) oj ej 0 done devs with
    | true => chkReg ops bs.tail (done ++ [oj]) (devs ++ [ej]) os es
    | false => false
  | _, _ => true

def subN (l : List Nat) (ok : Nat → Bool) : Bool := match l with | [] => true | x :: r => match ok x with | true => subN r ok | false => false
def okId (ts : List SV) (hp : Hp) (o : Oper) (fp : List Nat) (n' : Nat) : Nat → Bool := fun i =>
  match Nat.ble hp.length i, Nat.blt i n' with
  | true, true => true
  | _, _ => match memN i (idsL (o.op.operands.toList.map (evo ts))) with
    | true => true
    | false => memN i (fp.flatMap fun b => idsB (hget hp b))
def okHpFrom (p : Nat → Bool) (fp : List Nat) (lo : Nat) : Nat → Hp → Bool
  | _, [] => true
  | i, b :: r => match (match memN i fp, Nat.ble lo i with | false, false => true | _, _ => (match b with | some b => b.allb p | none => true)) with
    | true => okHpFrom p fp lo (i + 1) r
    | false => false

def calmOp (G : Glob) (ts : List SV) (o : Oper) : Bool :=
  match o.op with
  | .call c => (match c.callee with
    | .value f => (match evo ts f with
      | .fn g _ => G.calm g
      | .mth g _ => G.calm g
      | _ => false)
    | _ => false)
  | _ => false
def calmW : Bool → Bool | true => false | false => true
def exDraw (G : Glob) (r : Rec) (cx : Cx) (ops : Array Oper) : List Oper → St → List Ev → (St → Prop) → Prop
  | [], S, evs, K => match chkReg ops (befL ops.toList []) [] [] ops.toList evs.reverse, edgesOk 0 ops.toList with | true, true => K S | _, _ => False
  | o :: rest, S, evs, K =>
    match S with
    | ⟨sts, sdf, shp⟩ =>
    let n := shp.length
    let run (ts : List SV) : Prop :=
      match opsOk ts o with
      | false => False
      | true =>
        match isRead o with
        | true =>
          let fp := fpRead ts shp o
          sRead G.P G.w0 ts (restrict shp fp) o fun v nb =>
            match nb with
            | none => match v.allv (okId ts shp o fp n), allLt fp n with
              | true, true => forceV v fun v => putDstF ts o.dst v fun ts' => exDraw G r cx ops rest ⟨ts', sdf, shp⟩ (⟨fp, false, n, n⟩ :: evs) K
              | _, _ => False
            | some b => match v.allv (okId ts shp o fp (n + 1)), b.allb (okId ts shp o fp n), allLt fp n, okAlloc [] (restrict shp fp) b with
              | true, true, true, true => forceV v fun v => putDstF ts o.dst v fun ts' => forceHp (shp ++ [some b]) fun hp' => exDraw G r cx ops rest ⟨ts', sdf, hp'⟩ (⟨fp, false, n, n + 1⟩ :: evs) K
              | _, _, _, _ => False
        | false =>
          let fp := fpEff ts shp o
          exEff G r cx o ts (restrict shp fp) fun v hp' =>
            match v.allv (okId ts shp o fp hp'.length), okHpFrom (okId ts shp o fp hp'.length) fp n 0 hp', allLt fp n, Nat.ble n hp'.length with
            | true, true, true, true => forceV v fun v => putDstF ts o.dst v fun ts' => forceHp (mergeH shp hp' fp) fun hp2 => exDraw G r cx ops rest ⟨ts', sdf, hp2⟩ (⟨fp, calmW (calmOp G ts o), n, hp'.length⟩ :: evs) K
            | _, _, _, _ => False
    let skip (ts : List SV) : Prop := putDstF ts o.dst (.val undef) fun ts' => exDraw G r cx ops rest ⟨ts', sdf, shp⟩ (⟨[], false, n, n⟩ :: evs) K
    match guardOf ops sts o with
    | .yes => run sts
    | .no => skip sts
    | .ask d b want => askK (G.fix cx.fn d) b want (putF sts d (.bool (.lit want)) run) (putF sts d (.bool (.lit (!want))) skip)
    | .bad => False

theorem exDraw_cons (G : Glob) (r : Rec) (cx : Cx) (ops : Array Oper) (o : Oper) (rest : List Oper) (S : St) (evs : List Ev) (K : St → Prop) : exDraw G r cx ops (o :: rest) S evs K = (
    let n := S.hp.length
    let run (ts : List SV) : Prop :=
      match opsOk ts o with
      | false => False
      | true =>
        match isRead o with
        | true =>
          let fp := fpRead ts S.hp o
          sRead G.P G.w0 ts (restrict S.hp fp) o fun v nb =>
            match nb with
            | none => match v.allv (okId ts S.hp o fp n), allLt fp n with
              | true, true => forceV v fun v => putDstF ts o.dst v fun ts' => exDraw G r cx ops rest ⟨ts', S.df, S.hp⟩ (⟨fp, false, n, n⟩ :: evs) K
              | _, _ => False
            | some b => match v.allv (okId ts S.hp o fp (n + 1)), b.allb (okId ts S.hp o fp n), allLt fp n, okAlloc [] (restrict S.hp fp) b with
              | true, true, true, true => forceV v fun v => putDstF ts o.dst v fun ts' => forceHp (S.hp ++ [some b]) fun hp' => exDraw G r cx ops rest ⟨ts', S.df, hp'⟩ (⟨fp, false, n, n + 1⟩ :: evs) K
              | _, _, _, _ => False
        | false =>
          let fp := fpEff ts S.hp o
          exEff G r cx o ts (restrict S.hp fp) fun v hp' =>
            match v.allv (okId ts S.hp o fp hp'.length), okHpFrom (okId ts S.hp o fp hp'.length) fp n 0 hp', allLt fp n, Nat.ble n hp'.length with
            | true, true, true, true => forceV v fun v => putDstF ts o.dst v fun ts' => forceHp (mergeH S.hp hp' fp) fun hp2 => exDraw G r cx ops rest ⟨ts', S.df, hp2⟩ (⟨fp, calmW (calmOp G ts o), n, hp'.length⟩ :: evs) K
            | _, _, _, _ => False
    let skip (ts : List SV) : Prop := putDstF ts o.dst (.val undef) fun ts' => exDraw G r cx ops rest ⟨ts', S.df, S.hp⟩ (⟨[], false, n, n⟩ :: evs) K
    match guardOf ops S.ts o with
    | .yes => run S.ts
    | .no => skip S.ts
    | .ask d b want => askK (G.fix cx.fn d) b want (putF S.ts d (.bool (.lit want)) run) (putF S.ts d (.bool (.lit (!want))) skip)
    | .bad => False) := by cases S; rfl

def orEq (x : Int) : List Int → Prop
  | [] => False
  | v :: r => x = v ∨ orEq x r
def eachV (x : Int) (K : Int → Prop) : List Int → Prop
  | [] => True
  | v :: r => (x = v → K v) ∧ eachV x K r
def fcSV (i : Int) : FC → SV
  | .int k f => .int k (.sym (f i))
  | .bool f => .bool (.sym (f i))
  | .str f => .str (.sym (f i))
def rowSV (fc : FC) : Nat → Nat → List SV
  | _, 0 => []
  | i, n + 1 => fcSV (Int.ofNat i) fc :: rowSV fc (i + 1) n
def splitS : List (Tmp × List Int) → St → (St → Prop) → Prop
  | [], S, K => K S
  | (t, vals) :: r, S, K =>
    match nth S.ts t with
    | .int k (.sym x) => orEq x vals ∧ eachV x (fun v => putF S.ts t (.int k (.lit v)) fun ts => splitS r ⟨ts, S.df, S.hp⟩ K) vals
    | .int _ (.lit _) => splitS r S K
    | .fsl b n c => (match hget S.hp b with
      | some (.fblk m [fc] ty tl) => (m = n ∧ orEq n vals) ∧ eachV n (fun v => putF S.ts t (.slice b 0 v.toNat c) fun ts => splitS r ⟨ts, S.df, hput S.hp b (some (.cells (rowSV fc 0 v.toNat) ty tl))⟩ K) vals
      | _ => False)
    | _ => False

def kindFC : SV → Option FC
  | .int k _ => some (.int k fun _ => 0)
  | .bool _ => some (.bool fun _ => false)
  | .str _ => some (.str fun _ => ByteArray.empty)
  | _ => none
def kindFCs : Nat → List SV → Option (List FC)
  | 0, _ => some []
  | n + 1, v :: r => (match kindFC v, kindFCs n r with | some f, some l => some (f :: l) | _, _ => none)
  | _ + 1, [] => none
def reshape : List (Nat × Nat) → St → (St → Prop) → Prop
  | [], S, K => K S
  | (t, z) :: r, S, K =>
    match nth S.ts t with
    | .ptr b 0 => (match hget S.hp b with
      | some (.cells cs ty tl) => (match Nat.beq z 0, Nat.beq (cs.length / z * z) cs.length, kindFCs z cs with
        | false, true, some gs => (match colFCs z cs (cs.length / z) gs 0 with
          | some fs => nmFCs fs fun fs => reshape r ⟨S.ts, S.df, hput S.hp b (some (.fblk ((cs.length / z : Nat) : Int) fs ty tl))⟩ K
          | none => False)
        | _, _, _ => False)
      | _ => False)
    | _ => False

def hasBody (P : Program) (f : FuncId) : Bool := match P.funcs[f]? with | some fn => fn.body.isSome | none => false

def panics : List Oper → Bool
  | [] => false
  | o :: r => match o.op with | .panic _ => true | _ => panics r

def condK (fx : Nat → Option Bool) (c : Operand) (S : St) (A B : St → Prop) : Prop :=
  match evo S.ts c with
  | .bool (.lit true) => A S
  | .bool (.lit false) => B S
  | .bool (.sym b) => (match c with
    | .tmp d => askK (fx d) b true (putF S.ts d (.bool (.lit true)) fun ts => A ⟨ts, S.df, S.hp⟩) (putF S.ts d (.bool (.lit false)) fun ts => B ⟨ts, S.df, S.hp⟩)
    | _ => False)
  | _ => False
def cutAt (G : Glob) (f : FuncId) : Operand → Option (St → Inv)
  | .tmp d => G.cut f (100000 + d)
  | _ => none
def cutK (I : Inv) (lo : Nat) (K : Exit → St → Prop) (e : Exit) (S : St) : Prop :=
  match e with
  | .normal => ∃ i, I.R i ∧ leS lo S (I.T i)
  | e => K e S

def exCode (G : Glob) (r : Rec) (cx : Cx) : Code → St → (Exit → St → Prop) → Prop
  | .skip, S, K => K .normal S
  | .label _, S, K => K .normal S
  | .region id ops false, S, K => (match panics ops.toList with | true => False | false => exOps G r cx ops ops.toList S fun S' => splitS (G.spl cx.fn id) S' (reshape (G.shape cx.fn id) · (K .normal)))
  | .region id ops true, S, K =>
    match okHp (ltb S.hp.length) S.hp, SV.allvs (ltb S.hp.length) S.ts, panics ops.toList with
    | true, true, false => exDraw G r cx ops ops.toList S [] fun S' => splitS (G.spl cx.fn id) S' (reshape (G.shape cx.fn id) · (K .normal))
    | _, _, _ => False
  | .seq a b, S, K => exCode G r cx a S fun e S' => match e with | .normal => exCode G r cx b S' K | e => K e S'
  | .cond c t e, S, K => match cutAt G cx.fn c with
    | none => condK (G.fix cx.fn) c S (fun S1 => exCode G r cx t S1 K) fun S1 => exCode G r cx e S1 K
    | some mk => condK (G.fix cx.fn) c S (fun S1 => exCode G r cx t S1 (cutK (mk S) cx.lo K)) (fun S1 => exCode G r cx e S1 (cutK (mk S) cx.lo K)) ∧
        ∀ i, (mk S).R i → forceS ((mk S).T i) fun S' => K .normal S'
  | .block id c, S, K =>
    let K' : Exit → St → Prop := fun e S' => match e with | .exit j => (match Nat.beq j id with | true => K .normal S' | false => K (.exit j) S') | e => K e S'
    match G.cut cx.fn id with
    | none => exCode G r { cx with blk := id } c S K'
    | some mk => exCode G r { cx with blk := id } c S (fun e S' => match e with | .normal => ∃ i, (mk S).R i ∧ leS cx.lo S' ((mk S).T i) | .exit j => (match Nat.beq j id with | true => ∃ i, (mk S).R i ∧ leS cx.lo S' ((mk S).T i) | false => K (.exit j) S') | e => K e S') ∧
        ∀ i, (mk S).R i → forceS ((mk S).T i) fun S' => K .normal S'
  | .loop c, S, K =>
    match G.ann cx.fn cx.blk with
    | none => exCode G r cx c S fun e S' => match e with | .normal => r.loop cx c S' K | e => K e S'
    | some mk =>
      let held (S : St) : Prop := (∃ i, (mk S).R i ∧ leS cx.lo S ((mk S).T i)) ∧
        ∀ i, (mk S).R i → forceS ((mk S).T i) fun S1 => exCode G r cx c S1 fun e S' => match e with
          | .normal => ∃ j, (mk S).R j ∧ leS cx.lo S' ((mk S).T j) ∧ (mk S).μ j < (mk S).μ i
          | e => K e S'
      match G.peel cx.fn cx.blk with
      | false => held S
      | true => exCode G r cx c S fun e S' => match e with | .normal => held S' | e => K e S'
  | .rangeFunc g ps asg body, S, K =>
    match evo S.ts g with
    | .fn f cap =>
      match okHp (ltb S.hp.length) S.hp, SV.allvs (ltb S.hp.length) S.ts, hasBody G.P f with
      | true, true, true =>
        let n := S.hp.length
        match cx.rd with
        | none =>
          forceHp (S.hp ++ [some .dfr, some (.loop .ready none S.ts ps asg body n)]) fun hp1 => r.call f (.yld (n + 1) :: cap) hp1 fun _ hp' => forceHp hp' fun hp' =>
            match hget hp' (n + 1) with
            | some (.loop st pe ts1 ps1 asg1 body1 db1) => match isBusy st with
              | true => False
              | false =>
                match pe with
                | none => K .normal { S with df := n :: S.df, hp := hput hp' (n + 1) (some (.loop .exhausted pe ts1 ps1 asg1 body1 db1)) }
                | some .ret => K .ret { S with df := n :: S.df, hp := hput hp' (n + 1) (some (.loop .exhausted pe ts1 ps1 asg1 body1 db1)) }
                | some (.exit id) => K (.exit id) { S with df := n :: S.df, hp := hput hp' (n + 1) (some (.loop .exhausted pe ts1 ps1 asg1 body1 db1)) }
                | _ => False
            | _ => False
        | some _ => False
      | _, _, _ => False
    | _ => False
  | .exit id, S, K => K (.exit id) S
  | .scope c, S, K => exCode G r cx c S K
  | .ret, S, K => K .ret S
  | _, _, _ => False

def exLoop (G : Glob) (r : Rec) (cx : Cx) (c : Code) (S : St) (K : Exit → St → Prop) : Prop :=
  exCode G r cx c S fun e S' => match e with | .normal => r.loop cx c S' K | e => K e S'

def resVals (P : Program) (S : St) : List ResultVar → Option (List SV)
  | [] => some []
  | .tmp t :: r => match nth S.ts t, resVals P S r with
    | .any, _ => none
    | v, some l => some (v :: l)
    | _, none => none
  | .cell a t :: r => match nth S.ts a with
    | .ptr b o => match hget S.hp b with
      | some (.cells cs _ _) => match aggOf P t, szOf P t with
        | some true, some n => match Nat.ble (o + n) cs.length, noAny ((cs.drop o).take n), resVals P S r with
          | true, true, some l => some (.agg ((cs.drop o).take n) :: l)
          | _, _, _ => none
        | some false, _ => match nth cs o, resVals P S r with
          | .any, _ => none
          | v, some l => some (v :: l)
          | _, none => none
        | _, _ => none
      | _ => none
    | _ => none
def resVal : List SV → SV
  | [v] => v
  | l => .tup l

def takeDf : List Nat → Hp → Option Hp
  | [], hp => some hp
  | d :: r, hp => match hget hp d with
    | some .dfr => takeDf r (hput hp d none)
    | _ => none

def undefs : Nat → List SV
  | 0 => []
  | n + 1 => .val undef :: undefs n

def exCall (G : Glob) (r : Rec) (f : FuncId) (args : List SV) (hp : Hp) (K : SV → Hp → Prop) : Prop :=
  match G.orc f with
  | some C => C args hp K
  | none =>
    match G.P.funcs[f]? with
    | none => False
    | some fn => match fn.body with
      | none => False
      | some c =>
        match noAny args with
        | false => False
        | true =>
          forceVs (args ++ undefs (fn.ntmps - args.length)) fun ts => exCode G r ⟨f, 0, none, hp.length⟩ c ⟨ts, [], hp⟩ fun e S =>
            match e with
            | .normal | .ret => match takeDf S.df S.hp with
              | some hp' => match resVals G.P { S with hp := hp' } fn.results.toList with
                | some l => forceV (resVal l) fun v => K v hp'
                | none => False
              | none => False
            | _ => False

def recN (G : Glob) : Nat → Rec
  | 0 => ⟨fun _ _ _ _ => False, fun _ _ _ _ => False, fun _ _ _ _ => False⟩
  | n + 1 => ⟨exCode G (recN G n), exCall G (recN G n), exLoop G (recN G n)⟩

end Go.Sx
