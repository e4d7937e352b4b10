import Derived.Test.YtifbolmkiafmgaaSxA
namespace Go.Sx

def ofVal : Value → SV
  | .bool b => .bool (.lit b)
  | .int k n => .int k (.lit n)
  | .string s => .str (.lit s)
  | v => .val v
def ofValA : Value → SV
  | .agg cs => .agg (cs.toList.map ofVal)
  | v => ofVal v

def evo (ts : List SV) : Operand → SV
  | .tmp t => nth ts t
  | .const v => ofValA v
  | .global g => .val (.pointer (some ⟨g, 0, none⟩))
  | .func f => .fn f []

def SV.cellsL : SV → List SV
  | .agg cs => cs
  | .val v => v.cells.toList.map SV.val
  | v => [v]
def kEq : IntKind → IntKind → Bool
  | .i8, .i8 => true
  | .i16, .i16 => true
  | .i32, .i32 => true
  | .i64, .i64 => true
  | .u8, .u8 => true
  | .u16, .u16 => true
  | .u32, .u32 => true
  | .u64, .u64 => true
  | _, _ => false
def updF {α : Type} (f : Int → α) (i : Int) (v : α) : Int → α := fun x => if x = i then v else f x
def nameFC (fc : FC) (i : Int) (K : SV → Prop) : Prop :=
  match fc with
  | .int k f => ∀ v : Int, v = f i → K (.int k (.sym v))
  | .bool f => ∀ v : Bool, v = f i → K (.bool (.sym v))
  | .str f => ∀ v : ByteArray, v = f i → K (.str (.sym v))
def nameFCs : List FC → Int → (List SV → Prop) → Prop
  | [], _, K => K []
  | fc :: r, i, K => nameFC fc i fun v => nameFCs r i fun l => K (v :: l)
def nameRow (fc : FC) (i : Int) : Nat → (List SV → Prop) → Prop
  | 0, K => K []
  | m + 1, K => nameFC fc i fun v => nameRow fc (i + 1) m fun l => K (v :: l)
def setFC (fc : FC) (i : Int) (v : SV) (K : FC → Prop) : Prop :=
  match fc, v with
  | .int k f, .int k' n => (match kEq k k' with | true => ∀ g : Int → Int, g = updF f i n.val → K (.int k g) | false => False)
  | .bool f, .bool b => ∀ g : Int → Bool, g = updF f i b.val → K (.bool g)
  | .str f, .str b => ∀ g : Int → ByteArray, g = updF f i b.val → K (.str g)
  | _, _ => False
def setFCs (i : Int) : List FC → List SV → (List FC → Prop) → Prop
  | fs, [], K => K fs
  | [], _ :: _, _ => False
  | fc :: r, v :: vs, K => setFC fc i v fun fc' => setFCs i r vs fun r' => K (fc' :: r')
def setAt (i : Int) : Nat → List FC → List SV → (List FC → Prop) → Prop
  | 0, fs, vs, K => setFCs i fs vs K
  | o + 1, fc :: r, vs, K => setAt i o r vs fun r' => K (fc :: r')
  | _ + 1, [], _, _ => False
def setRow (fc : FC) (i : Int) : List SV → (FC → Prop) → Prop
  | [], K => K fc
  | v :: vs, K => setFC fc i v fun fc' => setRow fc' (i + 1) vs K
def BaseAt (w0 : World) (a : Addr) (fs : List FC) (i : Int) : Prop := ∀ (j : Nat) (fc : FC), fs[j]? = some fc → w0.cell? (a.add (i.toNat * fs.length + j)) = some (fc.val i)
def fbytes (f : Int → Int) (n : Int) : ByteArray := ⟨((List.range n.toNat).map fun (i : Nat) => UInt8.ofNat (f (i : Int)).toNat).toArray⟩
def noAny : List SV → Bool
  | [] => true
  | v :: r => match v.isAny with | true => false | false => noAny r
def allScalar : List SV → Bool
  | [] => true
  | v :: r => match v.scalar with | true => allScalar r | false => false

def szOf (P : Program) (t : TypeId) : Option Nat := match P.info? t with | some i => some i.size | none => none
def bytesOf (P : Program) (t : TypeId) : Option Nat := match P.info? t with | some i => some i.bytes | none => none
def aggOf (P : Program) (t : TypeId) : Option Bool := match P.underlying t with
  | some (.struct _) => some true | some (.array _ _) => some true | some _ => some false | none => none
def zeroOf (P : Program) (t : TypeId) : Option Value := match P.info? t with | some i => i.zero | none => none

def bytesL (l : List Nat) : ByteArray := ⟨(l.map UInt8.ofNat).toArray⟩
def shlI (k : IntKind) (x y : Int) : Int := k.wrap (x * 2 ^ (min y.toNat k.bits))
def shrI (k : IntKind) (x y : Int) : Int := x.fdiv (2 ^ (min y.toNat k.bits))
def bitI (op : BinOp) (k : IntKind) (x y : Int) : Int :=
  match op with
  | .and => k.wrap ((BitVec.ofInt k.bits x &&& BitVec.ofInt k.bits y).toNat)
  | .or => k.wrap ((BitVec.ofInt k.bits x ||| BitVec.ofInt k.bits y).toNat)
  | .xor => k.wrap ((BitVec.ofInt k.bits x ^^^ BitVec.ofInt k.bits y).toNat)
  | _ => k.wrap ((BitVec.ofInt k.bits x &&& ~~~ BitVec.ofInt k.bits y).toNat)

def let2 (k : IntKind) (f : Int → Int → Int) (a b : SI) (K : SV → Prop) : Prop :=
  match a, b with
  | .lit x, .lit y => K (.int k (.lit (f x y)))
  | .lit x, .sym y => ∀ v : Int, v = f x y → K (.int k (.sym v))
  | .sym x, .lit y => ∀ v : Int, v = f x y → K (.int k (.sym v))
  | .sym x, .sym y => ∀ v : Int, v = f x y → K (.int k (.sym v))
def letB2 (f : Int → Int → Bool) (a b : SI) (K : SV → Prop) : Prop :=
  match a, b with
  | .lit x, .lit y => K (.bool (.lit (f x y)))
  | .lit x, .sym y => ∀ v : Bool, v = f x y → K (.bool (.sym v))
  | .sym x, .lit y => ∀ v : Bool, v = f x y → K (.bool (.sym v))
  | .sym x, .sym y => ∀ v : Bool, v = f x y → K (.bool (.sym v))
def owe (f : Int → Bool) (a : SI) (X : Prop) : Prop :=
  match a with
  | .lit x => match f x with | true => X | false => False
  | .sym x => f x = true ∧ X

def sInt (op : BinOp) (k : IntKind) (a : SI) (k' : IntKind) (b : SI) (K : SV → Prop) : Prop :=
  match op with
  | .shl => owe (fun y => decide (0 ≤ y)) b (let2 k (shlI k) a b K)
  | .shr => owe (fun y => decide (0 ≤ y)) b (let2 k (shrI k) a b K)
  | op =>
    match decide (k = k') with
    | false => False
    | true =>
      match op with
      | .add => let2 k (fun x y => k.wrap (x + y)) a b K
      | .sub => let2 k (fun x y => k.wrap (x - y)) a b K
      | .mul => let2 k (fun x y => k.wrap (x * y)) a b K
      | .quo => owe (fun y => !decide (y = 0)) b (let2 k (fun x y => k.wrap (x.tdiv y)) a b K)
      | .rem => owe (fun y => !decide (y = 0)) b (let2 k (fun x y => x.tmod y) a b K)
      | .and => let2 k (bitI .and k) a b K
      | .or => let2 k (bitI .or k) a b K
      | .xor => let2 k (bitI .xor k) a b K
      | .andNot => let2 k (bitI .andNot k) a b K
      | .eql => letB2 (fun x y => x == y) a b K
      | .neq => letB2 (fun x y => x != y) a b K
      | .lss => letB2 (fun x y => decide (x < y)) a b K
      | .leq => letB2 (fun x y => decide (x ≤ y)) a b K
      | .gtr => letB2 (fun x y => decide (x > y)) a b K
      | .geq => letB2 (fun x y => decide (x ≥ y)) a b K
      | _ => False

def eqBs : List UInt8 → List UInt8 → Bool
  | [], [] => true
  | a :: r, b :: s => match Nat.beq a.toNat b.toNat with | true => eqBs r s | false => false
  | _, _ => false
def sStr (op : BinOp) (a b : SS) (K : SV → Prop) : Prop :=
  match op with
  | .add => ((a.val.size + b.val.size : Nat) : Int) ≤ 9223372036854775807 ∧
      (match a, b with
       | .lit x, .lit y => K (.str (.lit (x ++ y)))
       | a, b => ∀ v : ByteArray, v = a.val ++ b.val → K (.str (.sym v)))
  | .eql => (match a, b with
      | .lit x, .lit y => (match eqBs x.data.toList y.data.toList with | true => K (.bool (.lit true)) | false => K (.bool (.lit false)))
      | a, b => ∀ v : Bool, v = (a.val == b.val) → K (.bool (.sym v)))
  | .neq => ∀ v : Bool, v = (!(a.val == b.val)) → K (.bool (.sym v))
  | _ => False

def sPart (P : Program) (t : TypeId) (cs : List SV) (off : Nat) : Option SV :=
  match aggOf P t, szOf P t with
  | some true, some n => match Nat.ble (off + n) cs.length with | true => some (.agg ((cs.drop off).take n)) | false => none
  | some false, _ => match nth cs off with | .any => none | v => some v
  | _, _ => none

def eqFs (P : Program) (rec : TypeId → SV → SV → Option Bool) (xs ys : List SV) : List Field → Option Bool
  | [] => some true
  | f :: fs =>
    match decide (f.name = "_") with
    | true => eqFs P rec xs ys fs
    | false =>
      match sPart P f.type xs f.offset, sPart P f.type ys f.offset with
      | some a, some b =>
        match rec f.type a b, eqFs P rec xs ys fs with
        | some r, some s => some (r && s)
        | _, _ => none
      | _, _ => none
def eqAs (P : Program) (rec : SV → SV → Option Bool) (e : TypeId) (n : Nat) (xs ys : List SV) (i : Nat) : Nat → Option Bool
  | 0 => some true
  | m + 1 =>
    match sPart P e xs (i * n), sPart P e ys (i * n) with
    | some a, some b =>
      match rec a b, eqAs P rec e n xs ys (i + 1) m with
      | some r, some s => some (r && s)
      | _, _ => none
    | _, _ => none
def sEqv (P : Program) : Nat → TypeId → SV → SV → Option Bool
  | 0, _, _, _ => none
  | d + 1, t, x, y =>
    match P.underlying t, x, y with
    | some (.int _), .int k a, .int k' b => match decide (k = k') with | true => some (a.val == b.val) | false => none
    | some .bool, .bool a, .bool b => some (a.val == b.val)
    | some .string, .str a, .str b => some (a.val == b.val)
    | some (.struct fs), .agg xs, .agg ys => match P.stoodInHeld t with | true => none | false => eqFs P (sEqv P d) xs ys fs.toList
    | some (.array n e), .agg xs, .agg ys => match szOf P e with | some z => eqAs P (sEqv P d e) e z xs ys 0 n | none => none
    | _, _, _ => none

def nilEq : SV → SV → Option Bool
  | .slice _ _ _ _, .val (.slice none _ _) => some false
  | .val (.slice none _ _), .slice _ _ _ _ => some false
  | .val (.slice none _ _), .val (.slice none _ _) => some true
  | .val (.slice none _ _), .val (.slice (some _) _ _) => some false
  | .val (.slice (some _) _ _), .val (.slice none _ _) => some false
  | .fsl _ _ _, .val (.slice none _ _) => some false
  | .val (.slice none _ _), .fsl _ _ _ => some false
  | .bsl _ _ _ _, .val (.slice none _ _) => some false
  | .val (.slice none _ _), .bsl _ _ _ _ => some false
  | .osl _ _ _ _ _, .val (.slice none _ _) => some false
  | .val (.slice none _ _), .osl _ _ _ _ _ => some false
  | _, _ => none

def ptrEq : SV → SV → Option Bool
  | .val (.pointer none), .val (.pointer none) => some true
  | .ptr _ _, .val (.pointer none) => some false
  | .val (.pointer none), .ptr _ _ => some false
  | .ptr b o, .ptr b' o' => match Nat.beq b b', Nat.beq o o' with | true, true => some true | _, _ => none
  | _, _ => none
def hasInfo (P : Program) (t : TypeId) : Bool := match P.info? t with | some _ => true | none => false
def ptrSz (P : Program) (t : TypeId) : Bool := match P.info? t with | some j => (match Nat.beq j.size 0 with | true => false | false => true) | none => false
def sBin (P : Program) (op : BinOp) (t : TypeId) (x y : SV) (K : SV → Prop) : Prop :=
  match x, y with
  | .int k a, .int k' b => sInt op k a k' b K
  | .str a, .str b => sStr op a b K
  | .bool a, .bool b =>
    match op with
    | .eql => (match P.underlying t with | some .bool => ∀ v : Bool, v = (a.val == b.val) → K (.bool (.sym v)) | _ => False)
    | .neq => (match P.underlying t with | some .bool => ∀ v : Bool, v = (!(a.val == b.val)) → K (.bool (.sym v)) | _ => False)
    | _ => False
  | .agg xs, .agg ys =>
    match P.eqGuardType P.depth t with
    | true => False
    | false =>
      match op with
      | .eql => (match sEqv P 10000 t (.agg xs) (.agg ys) with | some r => ∀ v : Bool, v = r → K (.bool (.sym v)) | none => False)
      | .neq => (match sEqv P 10000 t (.agg xs) (.agg ys) with | some r => ∀ v : Bool, v = (!r) → K (.bool (.sym v)) | none => False)
      | _ => False
  | x, y => match nilEq x y, P.underlying t with
    | some r, some (.slice _) => (match op with | .eql => K (.bool (.lit r)) | .neq => K (.bool (.lit (!r))) | _ => False)
    | none, some (.pointer u) => (match hasInfo P u, ptrEq x y with
      | true, some r => (match op with | .eql => K (.bool (.lit r)) | .neq => K (.bool (.lit (!r))) | _ => False)
      | _, _ => False)
    | _, _ => False

def sUn (op : UnOp) (x : SV) (K : SV → Prop) : Prop :=
  match op, x with
  | .neg, .int k n => let2 k (fun x y => k.wrap (x - y)) (.lit 0) n K
  | .xor, .int k n => let2 k (bitI .xor k) (.lit (if k.signed then -1 else k.max)) n K
  | .not, .bool (.lit b) => K (.bool (.lit (!b)))
  | .not, .bool (.sym b) => ∀ v : Bool, v = (!b) → K (.bool (.sym v))
  | _, _ => False

def byteCells (s : ByteArray) : List SV := s.data.toList.map fun b => .int .u8 (.lit b.toNat)
def bytesOfCells : List SV → Option (List Int)
  | [] => some []
  | .int .u8 n :: r => match bytesOfCells r with | some l => some (n.val :: l) | none => none
  | _ :: _ => none
def mkBytes (l : List Int) : ByteArray := ⟨(l.map fun n => UInt8.ofNat n.toNat).toArray⟩

def sConv (P : Program) (src dst : TypeId) (x : SV) (K : SV → Prop) : Prop :=
  match P.underlying src, P.underlying dst, x with
  | some _, some (.int k), .int _ (.lit n) => K (.int k (.lit (k.wrap n)))
  | some _, some (.int k), .int _ (.sym n) => ∀ v : Int, v = k.wrap n → K (.int k (.sym v))
  | some _, some .string, .str s => K (.str s)
  | _, _, _ => False

def fieldOf (P : Program) (t : TypeId) (i : Nat) : Option Field :=
  match P.underlying t with
  | some (.struct fs) => fs.toList[i]?
  | _ => none

def eachIdx (x : Int) (K : Nat → Prop) : Nat → Prop
  | 0 => True
  | n + 1 => (x = (n : Int) → K n) ∧ eachIdx x K n

def withIdx (i : SI) (len : Nat) (K : Nat → Prop) : Prop :=
  match i with
  | .lit x => match decide (0 ≤ x ∧ x < (len : Int)) with | true => K x.toNat | false => False
  | .sym x => (0 ≤ x ∧ x < (len : Int)) ∧ eachIdx x K len

def byteAt (s : ByteArray) (i : Int) : Int := ((s.data.toList[i.toNat]?).getD 0).toNat

def sIndex (P : Program) (t : TypeId) (x ix : SV) (K : SV → Prop) : Prop :=
  match P.underlying t, x, ix with
  | some (.array len e), .agg cs, .int _ i => match szOf P e with
    | some z => withIdx i len fun j => match sPart P e cs (j * z) with | some v => K v | none => False
    | none => False
  | some .string, .str (.lit s), .int _ (.lit i) => match decide (0 ≤ i ∧ i < (s.size : Int)) with | true => K (.int .u8 (.lit (byteAt s i))) | false => False
  | some .string, .str s, .int _ i => (0 ≤ i.val ∧ i.val < (s.val.size : Int)) ∧ ∀ v : Int, v = byteAt s.val i.val → K (.int .u8 (.sym v))
  | _, _, _ => False

def isRow1 (hp : Hp) (b : Nat) : Bool := match hget hp b with | some (.fblk _ [_] _ _) => true | _ => false
def isFb (hp : Hp) (b : Nat) : Option Nat := match hget hp b with | some (.fblk _ fs _ _) => some fs.length | _ => none
def isFz (hp : Hp) (b z : Nat) : Bool := match isFb hp b with | some y => Nat.beq y z | none => false
def natAtSpec (n : Nat) : Nat := n
def sIndexAddr (P : Program) (hp : Hp) (t : TypeId) (x ix : SV) (K : SV → Prop) : Prop :=
  match P.underlying t, x, ix with
  | some (.array len e), .ptr b o, .int _ i => match szOf P e with
    | some z => (match isRow1 hp b with
      | true => (match i with
        | .sym y => (0 ≤ y ∧ y < (len : Int)) ∧ ∀ v : Int, v = (o : Int) + y * (z : Int) → K (.fptr b v 1 0)
        | .lit y => withIdx (.lit y) len fun j => K (.ptr b (o + j * z)))
      | false => (match isFz hp b z, o with
        | true, 0 => (0 ≤ i.val ∧ i.val < (len : Int)) ∧ K (.fptr b i.val z 0)
        | _, _ => withIdx i len fun j => K (.ptr b (o + j * z))))
    | none => False
  | some (.array len e), .fptr b i0 1 0, .int _ i => match szOf P e with
    | some z => (0 ≤ i0 ∧ 0 ≤ i.val ∧ i.val < (len : Int)) ∧ ∀ v : Int, v = i0 + i.val * (z : Int) → K (.fptr b v 1 0)
    | none => False
  | some (.slice e), .fsl b n _, .int _ i => match szOf P e with
    | some z => (0 ≤ i.val ∧ i.val < n) ∧ K (.fptr b i.val z 0)
    | none => False
  | some (.slice e), .osl b o y n _, .int _ i => match szOf P e with
    | some z => (match Nat.beq z y with | true => (0 ≤ o ∧ 0 ≤ i.val ∧ i.val < n) ∧ ∀ v : Int, v = o + i.val → K (.fptr b v z 0) | false => False)
    | none => False
  | some (.slice e), .bsl a n c fs, .int _ i => match szOf P e with
    | some z => (match Nat.beq z fs.length with | true => (0 ≤ i.val ∧ i.val < n) ∧ K (.bptr a i.val 0 fs) | false => False)
    | none => False
  | some (.slice e), .slice b o len _, .int _ i => match szOf P e with
    | some z => withIdx i len fun j => K (.ptr b (o + j * z))
    | none => False
  | some (.slice e), .val (.slice (some a) len _), .int _ i => match szOf P e with
    | some z => (0 ≤ i.val ∧ i.val < (len : Int)) ∧ K (.val (.pointer (some (a.add (i.val.toNat * z)))))
    | none => False
  | some (.array len e), .val (.pointer (some ⟨g, o, none⟩)), .int _ (.lit i) => match szOf P e, decide (0 ≤ i ∧ i < (len : Int)) with
    | some z, true => K (.val (.pointer (some ⟨g, natAtSpec (o + i.toNat * z), none⟩)))
    | _, _ => False
  | _, _, _ => False

def sBound (x : SV) (y : Nat) : Option Nat :=
  match x with
  | .int _ (.lit i) => match decide (0 ≤ i ∧ i ≤ (y : Int)) with | true => some i.toNat | false => none
  | _ => none
def sHigh (x : Option SV) (len cap : Nat) : Option Nat := match x with | none => some len | some v => sBound v cap
def capB (v : SV) (c : SN) (K : Nat → Prop) : Prop :=
  match v with
  | .int _ (.lit i) => (match decide (0 ≤ i), c with
    | true, .lit y => (match Nat.ble i.toNat y with | true => K i.toNat | false => False)
    | _, _ => False)
  | _ => False
def capSub (c : SN) (l : Nat) : SN := match c with | .lit y => .lit (y - l) | .ltr y => .ltr y | .num y => .num y
def capGt (c : SN) (l : Nat) (K : Bool → Prop) : Prop :=
  match l, c with
  | 0, _ => K true
  | l + 1, .lit y => (match Nat.beq y (l + 1) with | true => K false | false => K true)
  | _ + 1, _ => False
def capMax (mx : Option SV) (c : SN) (K : SN → Prop) : Prop := match mx with | none => K c | some v => capB v c fun m => K (.lit m)
def capHigh (hi mx : Option SV) (len : Nat) (m : SN) (K : Nat → Prop) : Prop := match hi, mx with | some v, _ => capB v m K | none, none => K len | none, some _ => False
def sLow (x : Option SV) (h : Nat) : Option Nat := match x with | none => some 0 | some v => sBound v h

def intOfSV : SV → Option Int | .int _ n => some n.val | _ => none

def isNought : Option SV → Bool
  | none => true
  | some (.int _ (.lit n)) => (match n with | .ofNat 0 => true | _ => false)
  | _ => false
def litO : Option SV → Bool
  | none => true
  | some (.int _ (.lit _)) => true
  | _ => false
def sSlice (P : Program) (hp : Hp) (t : TypeId) (x : SV) (lo hi mx : Option SV) (K : SV → Prop) : Prop :=
  match P.underlying t, x, mx with
  | some (.slice e), .fsl b n c, none => (match szOf P e, isNought lo, hi with
    | some _, true, some v => (match intOfSV v, hget hp b, c with
      | some h, some (.fblk n' fs _ (.ltr k z)), .ltr k' => (match Nat.beq k k', Nat.beq z fs.length, Nat.beq z 0 with | true, true, false => (0 ≤ h ∧ h ≤ n') ∧ K (.fsl b h c) | _, _, _ => False)
      | _, _, _ => False)
    | _, _, _ => False)
  | some (.slice e), .bsl a n c fs, none => (match szOf P e, isNought lo, hi with
    | some _, true, some v => (match intOfSV v with
      | some h => (0 ≤ h ∧ h ≤ (c : Int)) ∧ K (.bsl a h c fs)
      | _ => False)
    | _, _, _ => False)
  | some (.slice e), .osl b o z n c, none => (match szOf P e, (match hi with | none => some n | some v => intOfSV v), (match lo with | none => some 0 | some v => intOfSV v) with
    | some y, some h, some l => (match Nat.beq y z with
      | true => (0 ≤ o ∧ 0 ≤ l ∧ l ≤ h ∧ h ≤ c ∧ l < c) ∧ ∀ v : Int, v = o + l → ∀ m : Int, m = h - l → ∀ d : Int, d = c - l → K (.osl b v z m d)
      | false => False)
    | _, _, _ => False)
  | some (.array n e), .ptr b o, none => match o, isFb hp b with
   | 0, some y => (match szOf P e, (match hi with | none => some (n : Int) | some v => intOfSV v), (match lo with | none => some 0 | some v => intOfSV v) with
    | some z, some h, some l => (match Nat.beq y z with
      | true => (0 ≤ l ∧ l ≤ h ∧ h ≤ (n : Int) ∧ l < (n : Int)) ∧ ∀ m : Int, m = h - l → ∀ d : Int, d = (n : Int) - l → K (.osl b l z m d)
      | false => False)
    | _, _, _ => False)
   | _, _ => match sHigh hi n n with
    | some h => match sLow lo h, szOf P e with
      | some l, some z => match Nat.beq n l with | true => K (.slice b o (h - l) (.lit (n - l))) | false => K (.slice b (o + l * z) (h - l) (.lit (n - l)))
      | _, _ => False
    | none => False
  | some (.slice e), .slice b o len cap, _ =>
    capMax mx cap fun m => capHigh hi mx len m fun h =>
      match sLow lo h, szOf P e with
      | some l, some z => capGt m l fun mv => match mv with | true => K (.slice b (o + l * z) (h - l) (capSub m l)) | false => K (.slice b o (h - l) (capSub m l))
      | _, _ => False
  | some (.slice e), .val (.slice none 0 0), _ =>
    match (match lo with | none => some 0 | some v => intOfSV v), (match hi with | none => some 0 | some v => intOfSV v), (match hi, mx with | _, none => some 0 | some _, some v => intOfSV v | none, some _ => none), szOf P e with
    | some l, some h, some m, some _ => (l = 0 ∧ h = 0 ∧ m = 0) ∧ K (.val (.slice none 0 0))
    | _, _, _, _ => False
  | some (.slice e), .val (.slice (some a) len cap), none =>
    match (match hi with | none => some (len : Int) | some v => intOfSV v), (match lo with | none => some 0 | some v => intOfSV v), szOf P e with
    | some h, some l, some z => (0 ≤ l ∧ l ≤ h ∧ h ≤ (cap : Int) ∧ l < (cap : Int)) ∧ K (.val (.slice (some (a.add (l.toNat * z))) (h.toNat - l.toNat) (cap - l.toNat)))
    | _, _, _ => False
  | some .string, .str s, none =>
    match (match hi with | none => some (s.val.size : Int) | some v => intOfSV v), (match lo with | none => some 0 | some v => intOfSV v) with
    | some h, some l => (0 ≤ l ∧ l ≤ h ∧ h ≤ (s.val.size : Int)) ∧ (match s, litO lo, litO hi with
      | .lit x, true, true => K (.str (.lit (x.extract l.toNat h.toNat)))
      | s, _, _ => ∀ v : ByteArray, v = s.val.extract l.toNat h.toNat → K (.str (.sym v)))
    | _, _ => False
  | _, _, _ => False

def closedV (v : SV) : Bool := v.allv (fun _ => false)

def sLoad (P : Program) (w0 : World) (hp : Hp) (t : TypeId) (p : SV) (K : SV → Prop) : Prop :=
  match p with
  | .ptr b o =>
    match hget hp b with
    | some (.cells cs _ _) =>
      match aggOf P t, szOf P t with
      | some true, some n => match Nat.ble (o + n) cs.length, noAny ((cs.drop o).take n) with
        | true, true => K (.agg ((cs.drop o).take n))
        | _, _ => False
      | some false, _ => match nth cs o with | .any => False | v => K v
      | _, _ => False
    | some (.fblk n [fc] _ _) =>
      match aggOf P t, szOf P t with
      | some true, some m => (((o + m : Nat) : Int) ≤ n) ∧ nameRow fc (o : Int) m fun l => K (.agg l)
      | some false, _ => ((o : Int) < n) ∧ nameFC fc (o : Int) K
      | _, _ => False
    | _ => False
  | .fptr b i z o =>
    match hget hp b with
    | some (.fblk n fs _ _) =>
      match Nat.beq z fs.length, aggOf P t, szOf P t with
      | true, some false, _ => (match fnth fs o with | some fc => (0 ≤ i ∧ i < n) ∧ nameFC fc i K | none => False)
      | true, some true, some m => (match fs, o with
        | [fc], 0 => (0 ≤ i ∧ i + (m : Int) ≤ n) ∧ nameRow fc i m fun l => K (.agg l)
        | fs, o => (match Nat.ble (o + m) z with | true => (0 ≤ i ∧ i < n) ∧ nameFCs ((fs.drop o).take m) i fun l => K (.agg l) | false => False))
      | _, _, _ => False
    | _ => False
  | .bptr a i o fs =>
    match aggOf P t, szOf P t with
    | some false, _ => (match fnth fs o with | some fc => BaseAt w0 a fs i ∧ nameFC fc i K | none => False)
    | some true, some m => (match Nat.ble (o + m) fs.length with | true => BaseAt w0 a fs i ∧ nameFCs ((fs.drop o).take m) i fun l => K (.agg l) | false => False)
    | _, _ => False
  | .val (.pointer (some a)) =>
    match aggOf P t, szOf P t with
    | some true, some n => ∃ vs : List SV, vs.length = n ∧ noAny vs = true ∧ SV.allvs (fun _ => false) vs = true ∧ (∀ i v, vs[i]? = some v → w0.cell? (a.add i) = some (v.den fun _ => 0)) ∧ K (.agg vs)
    | some false, _ => (match P.underlying t with
      | some (.int k) => ∃ n : Int, w0.cell? a = some (.int k n) ∧ K (.int k (.sym n))
      | _ => ∃ v : SV, v.isAny = false ∧ closedV v = true ∧ w0.cell? a = some (v.den fun _ => 0) ∧ K v)
    | _, _ => False
  | _ => False

def spl : List SV → Nat → List SV → List SV
  | cs, _, [] => cs
  | cs, o, x :: xs => spl (put cs o x) (o + 1) xs

def fillS (place : Nat → Option (Nat × Nat)) (cells : List SV) : List (Nat × SV) → Option (List SV)
  | [] => some cells
  | (i, v) :: rest =>
    match place i with
    | none => none
    | some (off, size) =>
      match Nat.beq v.cellsL.length size, Nat.ble (off + v.cellsL.length) cells.length, allScalar v.cellsL with
      | true, true, true => fillS place (spl cells off v.cellsL) rest
      | _, _, _ => none

def placesOf (P : Program) : List Field → Option (List (Nat × Nat))
  | [] => some []
  | f :: r => match szOf P f.type, placesOf P r with | some z, some l => some ((f.offset, z) :: l) | _, _ => none

def sBuild (P : Program) (t : TypeId) (parts : List (Nat × SV)) (K : SV → Prop) : Prop :=
  match zeroOf P t, P.underlying t with
  | some z, some (.struct fs) => match placesOf P fs.toList with
    | some pl => match fillS (fun i => pl[i]?) (ofValA z).cellsL parts with | some cs => (match noAny cs with | true => K (.agg cs) | false => False) | none => False
    | none => False
  | some z, some (.array _ e) => match szOf P e with
    | some n => match fillS (fun i => some (i * n, n)) (ofValA z).cellsL parts with | some cs => (match noAny cs with | true => K (.agg cs) | false => False) | none => False
    | none => False
  | _, _ => False

def repl (z : List SV) : Nat → List SV
  | 0 => []
  | n + 1 => z ++ repl z n

def sBuildSlice (P : Program) (n : Nat) (t : TypeId) (len : Nat) (parts : List (Nat × SV)) (K : SV → Option SBk → Prop) : Prop :=
  match P.underlying t with
  | some (.slice e) => match szOf P e, zeroOf P e with
    | some z, some zv => match Nat.beq z 0, Nat.ble (len * z) 16777216, Nat.beq (ofValA zv).cellsL.length z with
      | false, true, true => match fillS (fun i => some (i * z, z)) (repl (ofValA zv).cellsL len) parts with
        | some cs => K (.slice n 0 len (.lit len)) (some (.cells cs e .full))
        | none => False
      | _, _, _ => False
    | _, _ => False
  | _ => False

def litNat : SV → Option Nat
  | .int _ (.lit i) => match decide (0 ≤ i ∧ i < 65536) with | true => some i.toNat | false => none
  | _ => none

def constFCs : List SV → Option (List FC)
  | [] => some []
  | .int k (.lit n) :: r => (match constFCs r with | some l => some (.int k (fun _ => n) :: l) | none => none)
  | .bool (.lit b) :: r => (match constFCs r with | some l => some (.bool (fun _ => b) :: l) | none => none)
  | .str (.lit s) :: r => (match constFCs r with | some l => some (.str (fun _ => s) :: l) | none => none)
  | _ :: _ => none
def sMakeSlice (P : Program) (n : Nat) (t : TypeId) (len cap : SV) (K : SV → Option SBk → Prop) : Prop :=
  match P.underlying t with
  | some (.slice e) => match szOf P e, zeroOf P e, bytesOf P e, litNat len, litNat cap with
    | some z, some zv, some by_, some l, some c => match Nat.beq z 0, Nat.ble l c, Nat.ble by_ 65536, Nat.beq (ofValA zv).cellsL.length z with
      | false, true, true, true => K (.slice n 0 l (.lit c)) (some (.cells (repl (ofValA zv).cellsL c) e .full))
      | _, _, _, _ => False
    | some z, some zv, some by_, _, _ => (match len, cap, constFCs (ofValA zv).cellsL, Nat.beq z 0, Nat.beq (ofValA zv).cellsL.length z with
      | .int _ (.sym l), .int _ (.sym c), some fs, false, true => (0 ≤ l ∧ l = c ∧ l * (by_ : Int) ≤ 140737488355328 ∧ l ≤ 140737488355328) ∧ K (.fsl n l (.num l)) (some (.fblk l fs e .full))
      | _, _, _, _, _ => False)
    | _, _, _, _, _ => False
  | _ => False

def sFn (fn : Fn) (first cap : List SV) : Option SV :=
  match fn, first with
  | .func f, [] => some (.fn f cap)
  | .func f, r :: rs => (match cap with | [] => some (.mth f (r :: rs)) | _ => none)
  | _, _ => none

def sMin2 (x y : SV) (K : SV → Prop) : Prop :=
  match x, y with
  | .int k (.lit a), .int k' (.lit b) => match decide (k = k') with | true => K (.int k (.lit (if b < a then b else a))) | false => False
  | .int k a, .int k' b => match decide (k = k') with | true => ∀ v : Int, v = (if b.val < a.val then b.val else a.val) → K (.int k (.sym v)) | false => False
  | _, _ => False
def sMax2 (x y : SV) (K : SV → Prop) : Prop :=
  match x, y with
  | .int k (.lit a), .int k' (.lit b) => match decide (k = k') with | true => K (.int k (.lit (if b > a then b else a))) | false => False
  | .int k a, .int k' b => match decide (k = k') with | true => ∀ v : Int, v = (if b.val > a.val then b.val else a.val) → K (.int k (.sym v)) | false => False
  | _, _ => False
def sMins (x : SV) (K : SV → Prop) : List SV → Prop
  | [] => K x
  | y :: r => sMin2 x y fun v => sMins v K r
def sMaxs (x : SV) (K : SV → Prop) : List SV → Prop
  | [] => K x
  | y :: r => sMax2 x y fun v => sMaxs v K r

def sLen (P : Program) (t : TypeId) (x : SV) (K : SV → Prop) : Prop :=
  match P.underlying t, x with
  | some .string, .str (.lit s) => K (.int .i64 (.lit s.size))
  | some .string, .str (.sym s) => ∀ v : Int, v = (s.size : Int) → K (.int .i64 (.sym v))
  | some (.array n _), _ => K (.int .i64 (.lit n))
  | some (.slice _), .slice _ _ n _ => K (.int .i64 (.lit n))
  | some (.slice _), .fsl _ n _ => (0 ≤ n) ∧ K (.int .i64 (.sym n))
  | some (.slice _), .bsl _ n _ _ => (0 ≤ n) ∧ K (.int .i64 (.sym n))
  | some (.slice _), .osl _ _ _ n _ => (0 ≤ n) ∧ K (.int .i64 (.sym n))
  | some (.slice _), .val (.slice (some _) n _) => ∀ v : Int, v = (n : Int) → K (.int .i64 (.sym v))
  | some (.slice _), .val (.slice none n _) => K (.int .i64 (.lit n))
  | _, _ => False

def sBuiltin (P : Program) (b : Builtin) (argTypes : Array TypeId) (args : List SV) (K : SV → Prop) : Prop :=
  match b, args with
  | .len, [x] => match argTypes.toList with | t :: _ => sLen P t x K | [] => False
  | .min, x :: r => sMins x K r
  | .max, x :: r => sMaxs x K r
  | _, _ => False

def srcCells (hp : Hp) (z : Nat) : SV → Option (Nat × List SV)
  | .slice b o l _ => match hget hp b with
    | some (.cells cs _ _) => match Nat.ble (o + l * z) cs.length, allScalar ((cs.drop o).take (l * z)) with
      | true, true => some (l, (cs.drop o).take (l * z))
      | _, _ => none
    | _ => none
  | .val (.slice none 0 0) => some (0, [])
  | .str (.lit s) => match Nat.beq z 1 with | true => some (s.size, byteCells s) | false => none
  | _ => none
def isSrcT : TypeDesc → Bool | .slice _ => true | .string => true | _ => false
def roomy (n by_ : Nat) : Bool := match Nat.ble (n * by_) 140737488355328, Nat.ble n 140737488355328 with | true, true => true | _, _ => false
def grown (n z e : Nat) (hp : Hp) (len : Nat) (cs : List SV) (K : SV → Hp → Prop) : Prop :=
  K (.slice (len + 1) 0 n (.ltr len)) (hp ++ [none, some (.cells cs e (.ltr len z))])
def sAppend (P : Program) (hp : Hp) (ats : List TypeId) (s x : SV) (K : SV → Hp → Prop) : Prop :=
  match ats with
  | t :: u :: _ =>
    match P.underlying t, P.underlying u with
    | some (.slice e), some d =>
      match isSrcT d, szOf P e, bytesOf P e, zeroOf P e with
      | true, some z, some by_, some zv =>
        match Nat.beq (ofValA zv).cellsL.length z, srcCells hp z x, okHp (ltb hp.length) hp with
        | true, some (n, news), true =>
          match s with
          | .val (.slice none 0 0) => (match Nat.beq n 0, roomy n by_ with
            | true, _ => K (.val (.slice none 0 0)) hp
            | false, true => grown n z e hp hp.length news K
            | false, false => False)
          | .slice b o len cap =>
            match hget hp b with
            | some (.cells cs ty tl) =>
              match cap with
              | .lit c => (match Nat.ble (len + n) c, roomy (len + n) by_ with
                | true, _ => (match Nat.ble (o + (len + n) * z) cs.length with
                  | true => K (.slice b o (len + n) (.lit c)) (hput hp b (some (.cells (spl cs (o + len * z) news) ty tl)))
                  | false => False)
                | false, true => (match Nat.ble (o + len * z) cs.length, noAny ((cs.drop o).take (len * z)) with
                  | true, true => grown (len + n) z e hp hp.length ((cs.drop o).take (len * z) ++ news) K
                  | _, _ => False)
                | false, false => False)
              | .ltr k => (match tl with
                | .ltr k' z' => (match Nat.beq k k', Nat.beq z z', Nat.beq z 0 with
                  | true, true, false => (match Nat.beq o 0, Nat.beq cs.length (len * z), Nat.beq ty e, roomy (len + n) by_, noAny cs with
                    | true, true, true, true, true => grown (len + n) z e (hput hp b none) hp.length (cs ++ news) K
                    | _, _, _, _, _ => False)
                  | _, _, _ => False)
                | .full => False)
              | .num _ => False
            | _ => False
          | .fsl b m cap =>
            (match hget hp b, cap, n with
            | some (.fblk m' fs ty (.ltr k' z')), .ltr k, 1 => (match Nat.beq k k', Nat.beq z z', Nat.beq z fs.length, Nat.beq z 0, Nat.beq ty e, allScalar news with
              | true, true, true, false, true, true => (m = m' ∧ (m + 1) * (by_ : Int) ≤ 140737488355328 ∧ m + 1 ≤ 140737488355328) ∧ setFCs m fs news fun fs' => ∀ m2 : Int, m2 = m + 1 → K (.fsl (hp.length + 1) m2 (.ltr hp.length)) (hput hp b none ++ [none, some (.fblk m2 fs' e (.ltr hp.length z))])
              | _, _, _, _, _, _ => False)
            | _, _, _ => False)
          | _ => False
        | _, _, _ => False
      | _, _, _, _ => False
    | _, _ => False
  | _ => False

def catF (f : Int → Int) (m : Int) (x : ByteArray) : Int → Int := fun i => if i < m then f i else byteAt x (i - m)
def sAppStr (P : Program) (hp : Hp) (ats : List TypeId) (s : SV) (x : ByteArray) (K : SV → Hp → Prop) : Prop :=
  match ats with
  | t :: u :: _ =>
    match P.underlying t, P.underlying u with
    | some (.slice e), some d =>
      match isSrcT d, szOf P e, bytesOf P e, zeroOf P e with
      | true, some z, some by_, some zv =>
        match Nat.beq z 1, Nat.beq (ofValA zv).cellsL.length z, okHp (ltb hp.length) hp with
        | true, true, true =>
          match s with
          | .val (.slice none 0 0) => (0 < (x.size : Int) ∧ (x.size : Int) * (by_ : Int) ≤ 140737488355328 ∧ (x.size : Int) ≤ 140737488355328) ∧
              ∀ m : Int, m = (x.size : Int) → K (.fsl (hp.length + 1) m (.ltr hp.length)) (hp ++ [none, some (.fblk m [.int .u8 (byteAt x)] e (.ltr hp.length 1))])
          | .fsl b m (.ltr k) =>
            match hget hp b with
            | some (.fblk m' [.int .u8 f] ty (.ltr k' z')) => (match Nat.beq k k', Nat.beq z' 1, Nat.beq ty e with
              | true, true, true => (m = m' ∧ (m + (x.size : Int)) * (by_ : Int) ≤ 140737488355328 ∧ m + (x.size : Int) ≤ 140737488355328) ∧
                  ∀ m2 : Int, m2 = m + (x.size : Int) → K (.fsl (hp.length + 1) m2 (.ltr hp.length)) (hput hp b none ++ [none, some (.fblk m2 [.int .u8 (catF f m x)] e (.ltr hp.length 1))])
              | _, _, _ => False)
            | _ => False
          | _ => False
        | _, _, _ => False
      | _, _, _, _ => False
    | _, _ => False
  | _ => False
def sCopy (P : Program) (hp : Hp) (ats : List TypeId) (d x : SV) (K : SV → Hp → Prop) : Prop :=
  match ats with
  | t :: _ =>
    match P.underlying t with
    | some (.slice e) => match szOf P e with
      | some z => match d, srcCells hp z x with
        | .val (.slice none 0 0), some _ => K (.int .i64 (.lit 0)) hp
        | .slice b o len _, some (n, news) => match hget hp b with
          | some (.cells cs ty tl) => match Nat.ble (o + (Nat.min n len) * z) cs.length with
            | true => K (.int .i64 (.lit (Nat.min n len))) (hput hp b (some (.cells (spl cs o (news.take (Nat.min n len * z))) ty tl)))
            | false => False
          | _ => False
        | _, _ => False
      | none => False
    | _ => False
  | _ => False

def allLit : List SV → Bool
  | [] => true
  | .int _ (.lit _) :: r => allLit r
  | _ :: _ => false
def sConvE (P : Program) (hp : Hp) (src dst : TypeId) (x : SV) (K : SV → Hp → Prop) : Prop :=
  match P.underlying src, P.underlying dst, x with
  | some (.slice e), some .string, .slice b o l _ => match P.underlying e, hget hp b with
    | some (.int .u8), some (.cells cs _ _) => match Nat.ble (o + l) cs.length, bytesOfCells ((cs.drop o).take l) with
      | true, some ns => (match allLit ((cs.drop o).take l) with | true => K (.str (.lit (mkBytes ns))) hp | false => ∀ v : ByteArray, v = mkBytes ns → K (.str (.sym v)) hp)
      | _, _ => False
    | _, _ => False
  | some (.slice e), some .string, .fsl b n _ => match P.underlying e, hget hp b with
    | some (.int .u8), some (.fblk n' [.int .u8 f] _ _) => (0 ≤ n ∧ n ≤ n') ∧ ∀ v : ByteArray, v = fbytes f n → K (.str (.sym v)) hp
    | _, _ => False
  | some (.slice e), some .string, .osl b o 1 n _ => match P.underlying e, hget hp b with
    | some (.int .u8), some (.fblk n' [.int .u8 f] _ _) => (0 ≤ o ∧ 0 ≤ n ∧ o + n ≤ n') ∧ ∀ v : ByteArray, v = fbytes (fun i => f (o + i)) n → K (.str (.sym v)) hp
    | _, _ => False
  | some (.slice e), some .string, .val (.slice none 0 0) => match P.underlying e with
    | some (.int .u8) => K (.str (.lit (bytesL []))) hp
    | _ => False
  | some .string, some (.slice e), .str (.lit s) => match P.underlying e, okHp (ltb hp.length) hp with
    | some (.int .u8), true => grown s.size 1 e hp hp.length (byteCells s) K
    | _, _ => False
  | some .string, some (.slice e), .str (.sym s) => match P.underlying e, okHp (ltb hp.length) hp with
    | some (.int .u8), true => ∀ n : Int, n = (s.size : Int) → K (.fsl (hp.length + 1) n (.ltr hp.length)) (hp ++ [none, some (.fblk n [.int .u8 (byteAt s)] e (.ltr hp.length 1))])
    | _, _ => False
  | some (.pointer t), some .unsafePointer, .ptr b o => match ptrSz P t, hget hp b with
    | true, some (.cells cs _ _) => (match Nat.ble (o + 1) cs.length with | true => K (.ptr b o) hp | false => False)
    | _, _ => False
  | some .unsafePointer, some (.pointer u), .ptr b o => match hasInfo P u, hget hp b with
    | true, some (.cells cs ty .full) => (match liesAt P P.depth ty (cs.length / P.cellsOf ty) o u 1 with | true => K (.ptr b o) hp | false => False)
    | _, _ => False
  | _, _, _ => sConv P src dst x fun v => K v hp
def sSlData (hp : Hp) (x : SV) (K : SV → Hp → Prop) : Prop :=
  match x with
  | .slice b o _ (.ltr k) => match hget hp b with
    | some (.cells (_ :: _) _ (.ltr k' _)) => (match Nat.beq k k' with | true => K (.ptr b o) hp | false => False)
    | _ => False
  | .fsl b n (.ltr k) => match hget hp b with
    | some (.fblk n' (_ :: _) _ (.ltr k' _)) => (match Nat.beq k k' with | true => (0 < n ∧ n ≤ n') ∧ K (.ptr b 0) hp | false => False)
    | _ => False
  | _ => False
def sUnStr (P : Program) (hp : Hp) (ats : List TypeId) (p n : SV) (K : SV → Hp → Prop) : Prop :=
  match ats, p, n with
  | [pt, _], .ptr b 0, .int .i64 (.lit (.ofNat (m + 1))) => match P.underlying pt, hget hp b with
    | some (.pointer e), some (.cells cs ty _) => match Nat.beq e ty, Nat.beq (P.cellsOf e) 1, Nat.ble (m + 1) cs.length, Nat.ble (m + 1) 140737488355328, bytesOfCells (cs.take (m + 1)) with
      | true, true, true, true, some ns => (match allLit (cs.take (m + 1)) with | true => K (.str (.lit (mkBytes ns))) (hput hp b none) | false => ∀ v : ByteArray, v = mkBytes ns → K (.str (.sym v)) (hput hp b none))
      | _, _, _, _, _ => False
    | _, _ => False
  | [pt, _], .ptr b 0, .int .i64 (.sym n) => match P.underlying pt, hget hp b with
    | some (.pointer e), some (.fblk n' [.int .u8 f] ty _) => match Nat.beq e ty, Nat.beq (P.cellsOf e) 1 with
      | true, true => (0 < n ∧ n ≤ n' ∧ n ≤ 140737488355328) ∧ ∀ v : ByteArray, v = fbytes f n → K (.str (.sym v)) (hput hp b none)
      | _, _ => False
    | _, _ => False
  | _, _, _ => False

def retK (K : SV → Option SBk → Prop) (v : SV) : Prop := K v none

def parts (ts : List SV) (ps : Array (Nat × Operand)) : List (Nat × SV) := ps.toList.map fun p => (p.1, evo ts p.2)

def sRead (P : Program) (w0 : World) (ts : List SV) (hp : Hp) (o : Oper) (K : SV → Option SBk → Prop) : Prop :=
  match o.op with
  | .move x => K (evo ts x) none
  | .assign x => K (evo ts x) none
  | .pick c a b => (match evo ts c with
    | .bool (.lit true) => K (evo ts a) none
    | .bool (.lit false) => K (evo ts b) none
    | .bool (.sym t) => (match evo ts a, evo ts b with
      | .bool x, .bool y => ∀ v : Bool, v = (if t then x.val else y.val) → K (.bool (.sym v)) none
      | _, _ => (t = true → K (evo ts a) none) ∧ (t = false → K (evo ts b) none))
    | _ => False)
  | .alloc e => (match zeroOf P e with | some z => K (.ptr hp.length 0) (some (.cells (ofValA z).cellsL e .full)) | none => False)
  | .box e x => K (.ptr hp.length 0) (some (.cells (evo ts x).cellsL e .full))
  | .build t ps => sBuild P t (parts ts ps) (retK K)
  | .buildSlice t len ps => sBuildSlice P hp.length t len (parts ts ps) K
  | .load t a => sLoad P w0 hp t (evo ts a) (retK K)
  | .nilCheck x => (match evo ts x with |   .ptr b o => K (.ptr b o) none | .fptr b i z o => K (.fptr b i z o) none | .bptr a i o fs => K (.bptr a i o fs) none | .fn f c => K (.fn f c) none | .mth f c => K (.mth f c) none | .val (.pointer (some a)) => K (.val (.pointer (some a))) none | _ => False)
  | .binOp op t x y _ => sBin P op t (evo ts x) (evo ts y) (retK K)
  | .unOp op _ x => sUn op (evo ts x) (retK K)
  | .convert s d x => sConv P s d (evo ts x) (retK K)
  | .makeFunc fn first cap => (match sFn fn (first.toList.map (evo ts)) (cap.toList.map (evo ts)) with | some v => K v none | none => False)
  | .makeSlice t l c => sMakeSlice P hp.length t (evo ts l) (evo ts c) K
  | .slice t x lo hi mx => sSlice P hp t (evo ts x) (lo.map (evo ts)) (hi.map (evo ts)) (mx.map (evo ts)) (retK K)
  | .fieldAddr t x f => (match fieldOf P t f with
    | some fd => (match szOf P fd.type with
      | some z => (match Nat.beq z 0, evo ts x with
        | false, .ptr b o => K (.ptr b (o + fd.offset)) none
        | false, .val (.pointer (some a)) => K (.val (.pointer (some (a.add fd.offset)))) none
        | false, .fptr b i z o => K (.fptr b i z (o + fd.offset)) none
        | false, .bptr a i o fs => K (.bptr a i (o + fd.offset) fs) none
        | _, _ => False)
      | none => False)
    | none => False)
  | .field t x f => (match evo ts x, fieldOf P t f with
    | .agg cs, some fd => (match sPart P fd.type cs fd.offset with | some v => K v none | none => False)
    | _, _ => False)
  | .indexAddr t x i => sIndexAddr P hp t (evo ts x) (evo ts i) (retK K)
  | .index t x i => sIndex P t (evo ts x) (evo ts i) (retK K)
  | .sliceToArrayPointer t x => (match P.underlying t, evo ts x with
    | some (.array n _), .slice b o len _ => (match Nat.ble n len with | true => K (.ptr b o) none | false => False)
    | _, _ => False)
  | .extract t i => (match evo ts t with | .tup vs => (match nth vs i with | .any => False | v => K v none) | _ => False)
  | .call c => (match c.callee with | .builtin b => sBuiltin P b c.argTypes (c.args.toList.map (evo ts)) (retK K) | _ => False)
  | _ => False

end Go.Sx
