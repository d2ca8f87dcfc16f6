import GoSem.Step
section
set_option autoImplicit false
namespace Go.Ev
noncomputable section

/-! ### binary numbers and tries -/
inductive Pos where
  | one | o (p : Pos) | i (p : Pos)
  deriving Inhabited

namespace Pos
def toNat : Pos → Nat
  | .one => 1
  | .o p => 2 * p.toNat
  | .i p => 2 * p.toNat + 1
def ofNatF : Nat → Nat → Pos
  | 0, _ => .one
  | f + 1, n => bif Nat.ble n 1 then .one else bif Nat.beq (n % 2) 0 then .o (ofNatF f (n / 2)) else .i (ofNatF f (n / 2))
def key (n : Nat) : Pos := ofNatF (n + 1) (n + 1)
end Pos

inductive PT (α : Type) where
  | nil | node (l : PT α) (v : Option α) (r : PT α)
  deriving Inhabited
namespace PT
variable {α : Type}
def get (p : Pos) : PT α → Option α :=
  Pos.rec (motive := fun _ => PT α → Option α) (fun t => PT.rec none (fun _ v _ _ _ => v) t)
    (fun _ ih t => PT.rec none (fun l _ _ _ _ => ih l) t) (fun _ ih t => PT.rec none (fun _ _ r _ _ => ih r) t) p
def set (p : Pos) : Option α → PT α → PT α :=
  Pos.rec (motive := fun _ => Option α → PT α → PT α)
    (fun x t => PT.rec (.node .nil x .nil) (fun l _ r _ _ => .node l x r) t)
    (fun _ ih x t => PT.rec (.node (ih x .nil) none .nil) (fun l v r _ _ => .node (ih x l) v r) t)
    (fun _ ih x t => PT.rec (.node .nil none (ih x .nil)) (fun l v r _ _ => .node l v (ih x r)) t) p
end PT

/-! ### booleans and options, by their recursors -/
def bor (a b : Bool) : Bool := Bool.rec b true a
def band (a b : Bool) : Bool := Bool.rec false b a
def bsel {α : Type} (c : Bool) (a b : α) : α := Bool.rec b a c
def ob {α β : Type} (x : Option α) (f : α → Option β) : Option β := Option.rec none f x

/-! ### values -/
/-- A term of a symbolic integer: its coefficient, its variable, the least and the greatest value of that. -/
inductive ST where
  | mk (k : Int) (v : Nat) (lo hi : Int)
  deriving Inhabited
/-- A symbolic integer: a number and terms. -/
inductive SE where
  | mk (c : Int) (ts : List ST)
  deriving Inhabited

inductive ACap where
  | exact (n : Nat) | rest (k : Nat)
  deriving Inhabited

inductive V where
  | int (k : IntKind) (n : Int)
  | bool (b : Bool)
  | ptr (b off : Nat)
  | slice (b off len : Nat) (cap : ACap)
  | agg (n : Nat) (cs : List V)
  | tup (l : List V)
  | str (n : Nat) (s : List V)
  | map (b : Nat)
  | func (f : FuncId) (caps : List (Nat × Nat))
  | sym (k : IntKind) (e : SE)
  /-- some integer between these -/
  | any (k : IntKind) (lo hi : Int)
  /-- a slice of n elements in memory that does not change any more: its cells -/
  | fz (l : List V) (n : Nat)
  /-- the same, without room for more -/
  | fx (l : List V) (n : Nat)
  /-- a pointer into such memory: the cells from there on -/
  | fp (l : List V)
  /-- an empty slice that is not nil and has no room -/
  | fe
  /-- bytes in such memory: how many; what lies at one place -/
  | ord (len idx : SE) (v : V)
  | nilp | nils | nilm | nilf
  deriving Inhabited

inductive Tail where
  | exact | opn (size : Nat)
  deriving Inhabited

structure ME where
  key : V
  val : V
  born : Nat
  deriving Inhabited

inductive AObj where
  | blk (c : List V) (len : Nat) (t : Tail)
  | map (es : List ME) (clock : Nat)
  | mit (m : Nat) (since : Nat) (seen : List Nat) (last : Nat)
  | sit (s : List V) (n pos : Nat)
  deriving Inhabited

/-- An abstract heap: objects by number; the next number. -/
structure Heap where
  objs : PT AObj
  next : Nat
  deriving Inhabited

def Heap.get (h : Heap) (b : Nat) : Option AObj := PT.get (Pos.key b) h.objs
def Heap.put (h : Heap) (b : Nat) (o : AObj) : Heap := ⟨PT.set (Pos.key b) (some o) h.objs, h.next⟩
def Heap.del (h : Heap) (b : Nat) : Heap := ⟨PT.set (Pos.key b) none h.objs, h.next⟩
def Heap.new (h : Heap) (o : AObj) : Heap := ⟨PT.set (Pos.key h.next) (some o) h.objs, Nat.succ h.next⟩

/-- What an operation or a call comes to. -/
inductive Out where
  | bad | one (v : V) (h : Heap) | many (l : List (V × Heap))
  deriving Inhabited

/-! ### lists, by their recursors -/
def nth (n : Nat) : List V → Option V :=
  Nat.rec (motive := fun _ => List V → Option V) (fun l => List.rec none (fun v _ _ => some v) l) (fun _ ih l => List.rec none (fun _ t _ => ih t) l) n
def dropV (n : Nat) : List V → List V :=
  Nat.rec (motive := fun _ => List V → List V) (fun l => l) (fun _ ih l => List.rec [] (fun _ t _ => ih t) l) n
def takeV (n : Nat) : List V → List V :=
  Nat.rec (motive := fun _ => List V → List V) (fun _ => []) (fun _ ih l => List.rec [] (fun v t _ => v :: ih t) l) n
def appV (l r : List V) : List V := List.rec r (fun v _ ih => v :: ih) l
/-! 'wrV': c with vs (n values) from off on -/
def wrV (off : Nat) (vs : List V) (n : Nat) : List V → List V :=
  Nat.rec (motive := fun _ => List V → List V) (fun c => appV vs (dropV n c)) (fun _ ih c => List.rec [] (fun v t _ => v :: ih t) c) off

/-! the first n values, if there are so many -/
def takeO (n : Nat) : List V → Option (List V) :=
  Nat.rec (motive := fun _ => List V → Option (List V)) (fun _ => some []) (fun _ ih l => List.rec none (fun v t _ => ob (ih t) fun r => some (v :: r)) l) n

end
end Go.Ev
end

section
set_option autoImplicit false
namespace Go.Ev
noncomputable section

/-! ### constants -/
def bytesV (l : List UInt8) : List V := l.map fun b => .int .u8 b.toNat
def absCell : Value → Option V
  | .bool b => some (.bool b)
  | .int k n => some (.int k n)
  | .string s => some (.str s.data.toList.length (bytesV s.data.toList))
  | .pointer a => match a with
    | none => some .nilp
    | some _ => none
  | .slice a n c => match a with
    | none => bsel (band (Nat.beq n 0) (Nat.beq c 0)) (some .nils) none
    | some _ => none
  | .map a => match a with
    | none => some .nilm
    | some _ => none
  | .nilFunc => some .nilf
  | .func f x y => match f with
    | .func f => bsel (band (Nat.beq x.size 0) (Nat.beq y.size 0)) (some (.func f [])) none
    | _ => none
  | _ => none
def optAll {α β : Type} (f : α → Option β) : List α → Option (List β)
  | [] => some []
  | x :: xs => match f x with
    | some y => match optAll f xs with
      | some ys => some (y :: ys)
      | none => none
    | none => none
def absV : Value → Option V
  | .agg cs => match optAll absCell cs.toList with
    | some l => some (.agg l.length l)
    | none => none
  | v => absCell v

def undefA : V := .tup []

/-! ### integers -/
def posMax : IntKind → Nat
  | .i8 => 127 | .i16 => 32767 | .i32 => 2147483647 | .i64 => 9223372036854775807
  | .u8 => 255 | .u16 => 65535 | .u32 => 4294967295 | .u64 => 18446744073709551615
def negOk : IntKind → Nat → Bool
  | .i8, m => Nat.ble m 127 | .i16, m => Nat.ble m 32767 | .i32, m => Nat.ble m 2147483647 | .i64, m => Nat.ble m 9223372036854775807
  | _, _ => false
def inRange (k : IntKind) (n : Int) : Bool := Int.rec (fun m => Nat.ble m (posMax k)) (fun m => negOk k m) n
def wrapA (k : IntKind) (n : Int) : Int := bsel (inRange k n) n (k.wrap n)
def intEq (a b : Int) : Bool := Int.rec (fun a => Int.rec (fun b => Nat.beq a b) (fun _ => false) b) (fun a => Int.rec (fun _ => false) (fun b => Nat.beq a b) b) a
def intLt (a b : Int) : Bool := Int.rec (fun a => Int.rec (fun b => Nat.blt a b) (fun _ => false) b) (fun a => Int.rec (fun _ => true) (fun b => Nat.blt b a) b) a
def kindNo : IntKind → Nat
  | .i8 => 0 | .i16 => 1 | .i32 => 2 | .i64 => 3 | .u8 => 4 | .u16 => 5 | .u32 => 6 | .u64 => 7
def kindEq (k j : IntKind) : Bool := Nat.beq (kindNo k) (kindNo j)
def iAdd (a b : Int) : Int := Int.rec (fun m => Int.rec (fun n => Int.ofNat (Nat.add m n)) (fun n => Int.add (Int.ofNat m) (Int.negSucc n)) b) (fun m => Int.add (Int.negSucc m) b) a
def iSub (a b : Int) : Int := Int.rec (fun m => Int.rec (fun n => bsel (Nat.ble n m) (Int.ofNat (Nat.sub m n)) (Int.sub (Int.ofNat m) (Int.ofNat n))) (fun n => Int.sub (Int.ofNat m) (Int.negSucc n)) b) (fun m => Int.sub (Int.negSucc m) b) a

abbrev G2 := IntKind → Int → Int → Option V
def wInt (k : IntKind) (n : Int) : Option V := some (.int k (wrapA k n))
def bAdd : G2 := fun k a b => wInt k (iAdd a b)
def bSub : G2 := fun k a b => wInt k (iSub a b)
def bMul : G2 := fun k a b => wInt k (Int.mul a b)
def bQuo : G2 := fun k a b => bsel (intEq b 0) none (wInt k (a.tdiv b))
def bRem : G2 := fun k a b => bsel (intEq b 0) none (some (.int k (a.tmod b)))
def bEq : G2 := fun _ a b => some (.bool (intEq a b))
def bNe : G2 := fun _ a b => some (.bool (!intEq a b))
def bLt : G2 := fun _ a b => some (.bool (intLt a b))
def bLe : G2 := fun _ a b => some (.bool (!intLt b a))
def bGt : G2 := fun _ a b => some (.bool (intLt b a))
def bGe : G2 := fun _ a b => some (.bool (!intLt a b))
def bAnd : G2 := fun k a b => some (.int k (k.wrap (BitVec.ofInt k.bits a &&& BitVec.ofInt k.bits b).toNat))
def bOr : G2 := fun k a b => some (.int k (k.wrap (BitVec.ofInt k.bits a ||| BitVec.ofInt k.bits b).toNat))
def bXor : G2 := fun k a b => some (.int k (k.wrap (BitVec.ofInt k.bits a ^^^ BitVec.ofInt k.bits b).toNat))
def bAndNot : G2 := fun k a b => some (.int k (k.wrap (BitVec.ofInt k.bits a &&& ~~~ BitVec.ofInt k.bits b).toNat))
def bShl : G2 := fun k a b => match b with
  | .ofNat m => wInt k (a * 2 ^ (min m k.bits))
  | .negSucc _ => none
def bShr : G2 := fun k a b => match b with
  | .ofNat m => some (.int k (a.fdiv (2 ^ (min m k.bits))))
  | .negSucc _ => none

/-! ### symbolic integers -/
def iMul (a b : Int) : Int := Int.mul a b
def stLo : ST → Int
  | .mk k _ lo hi => bsel (intLt k 0) (iMul k hi) (iMul k lo)
def stHi : ST → Int
  | .mk k _ lo hi => bsel (intLt k 0) (iMul k lo) (iMul k hi)
def loT : List ST → Int
  | [] => 0
  | t :: l => iAdd (stLo t) (loT l)
def hiT : List ST → Int
  | [] => 0
  | t :: l => iAdd (stHi t) (hiT l)
def seLo : SE → Int
  | .mk c ts => iAdd c (loT ts)
def seHi : SE → Int
  | .mk c ts => iAdd c (hiT ts)
def addT (k : Int) (v : Nat) (lo hi : Int) : List ST → List ST
  | [] => [.mk k v lo hi]
  | .mk k' v' lo' hi' :: l => bsel (Nat.beq v v')
      (bsel (intEq (iAdd k k') 0) l (.mk (iAdd k k') v' lo' hi' :: l))
      (.mk k' v' lo' hi' :: addT k v lo hi l)
def addTs : List ST → List ST → List ST
  | [], l => l
  | .mk k v lo hi :: r, l => addTs r (addT k v lo hi l)
def seAdd : SE → SE → SE
  | .mk c ts, .mk d us => .mk (iAdd c d) (addTs us ts)
def sclT (m : Int) : List ST → List ST
  | [] => []
  | .mk k v lo hi :: l => .mk (iMul m k) v lo hi :: sclT m l
def seScl (m : Int) : SE → SE
  | .mk c ts => .mk (iMul m c) (sclT m ts)
def seSub (a b : SE) : SE := seAdd a (seScl (-1) b)
def mkS (k : IntKind) (e : SE) : Option V := match e with
  | .mk c ts => match ts with
    | [] => bsel (inRange k c) (some (.int k c)) none
    | t :: l => bsel (band (inRange k (seLo (.mk c (t :: l)))) (inRange k (seHi (.mk c (t :: l))))) (some (.sym k (.mk c (t :: l)))) none
/-- the quotient's terms and the rest's -/
def quoT (m : Int) : List ST → List ST
  | [] => []
  | .mk k v lo hi :: l => bsel (intEq (k / m) 0) (quoT m l) (.mk (k / m) v lo hi :: quoT m l)
def remT (m : Int) : List ST → List ST
  | [] => []
  | .mk k v lo hi :: l => bsel (intEq (k % m) 0) (remT m l) (.mk (k % m) v lo hi :: remT m l)
def seQuo (m : Int) : SE → SE
  | .mk c ts => .mk (c / m) (quoT m ts)
def seRem (m : Int) : SE → SE
  | .mk c ts => .mk (c % m) (remT m ts)
def divOk (m : Int) (e : SE) : Bool :=
  band (intLt 0 m) (band (!intLt (seLo e) 0) (band (!intLt (seLo (seRem m e)) 0) (intLt (seHi (seRem m e)) m)))
def seLt (a b : SE) : Option Bool :=
  bsel (intLt (seHi (seSub a b)) 0) (some true) (bsel (intLt (seLo (seSub a b)) 0) none (some false))
def seEq (a b : SE) : Option Bool := match seSub a b with
  | .mk c ts => match ts with
    | [] => some (intEq c 0)
    | t :: l => bsel (bor (intLt (seHi (.mk c (t :: l))) 0) (intLt 0 (seLo (.mk c (t :: l))))) (some false) none
def toS (v : V) : Option (IntKind × SE) := match v with
  | .int k n => some (k, .mk n [])
  | .sym k e => some (k, e)
  | _ => none
abbrev S2 := IntKind → SE → SE → Option V
def symF (g : S2) (x y : V) : Option V :=
  match toS x, toS y with
  | some (k, a), some (j, b) => bsel (kindEq k j) (g k a b) none
  | _, _ => none
/-- between what and what a value lies -/
def toIv (v : V) : Option (IntKind × Int × Int) := match v with
  | .int k n => some (k, n, n)
  | .sym k e => some (k, seLo e, seHi e)
  | .any k lo hi => some (k, lo, hi)
  | _ => none
abbrev I2 := IntKind → Int → Int → Int → Int → Option V
def ivF (g : I2) (x y : V) : Option V :=
  match toIv x with
  | some p => match toIv y with
    | some q => bsel (kindEq p.1 q.1) (g p.1 p.2.1 p.2.2 q.2.1 q.2.2) none
    | none => none
  | none => none
def mkIv (k : IntKind) (lo hi : Int) : Option V := bsel (band (inRange k lo) (inRange k hi)) (some (.any k lo hi)) none
def ivQuo : I2 := fun k a b c d => bsel (band (intEq c d) (band (intLt 0 c) (!intLt a 0))) (mkIv k (a / c) (b / c)) none
def ivRem : I2 := fun k a _ c d => bsel (band (intEq c d) (band (intLt 0 c) (!intLt a 0))) (mkIv k 0 (iSub c 1)) none
def ivLt (a b c d : Int) : Option Bool := bsel (intLt b c) (some true) (bsel (intLt a d) none (some false))
def ivBool (neg : Bool) (r : Option Bool) : Option V := ob r fun b => some (.bool (bsel neg (!b) b))
def ivLss : I2 := fun _ a b c d => ivBool false (ivLt a b c d)
def ivLeq : I2 := fun _ a b c d => ivBool true (ivLt c d a b)
def ivGtr : I2 := fun _ a b c d => ivBool false (ivLt c d a b)
def ivGeq : I2 := fun _ a b c d => ivBool true (ivLt a b c d)
def orF (f g : V → V → Option V) (x y : V) : Option V := match f x y with
  | some v => some v
  | none => g x y
def sBool (neg : Bool) (r : Option Bool) : Option V := ob r fun b => some (.bool (bsel neg (!b) b))
def sAdd : S2 := fun k a b => mkS k (seAdd a b)
def sSub : S2 := fun k a b => mkS k (seSub a b)
def sMul : S2 := fun k a b => match a with
  | .mk c ts => match ts with
    | [] => mkS k (seScl c b)
    | _ :: _ => match b with
      | .mk d us => match us with
        | [] => mkS k (seScl d a)
        | _ :: _ => none
def sQuo : S2 := fun k a b => match b with
  | .mk d us => match us with
    | [] => bsel (divOk d a) (mkS k (seQuo d a)) none
    | _ :: _ => none
def sRem : S2 := fun k a b => match b with
  | .mk d us => match us with
    | [] => bsel (divOk d a) (mkS k (seRem d a)) none
    | _ :: _ => none
def sEql : S2 := fun _ a b => sBool false (seEq a b)
def sNeq : S2 := fun _ a b => sBool true (seEq a b)
def sLss : S2 := fun _ a b => sBool false (seLt a b)
def sLeq : S2 := fun _ a b => sBool true (seLt b a)
def sGtr : S2 := fun _ a b => sBool false (seLt b a)
def sGeq : S2 := fun _ a b => sBool true (seLt a b)
def byteEq (a b : V) : Option Bool :=
  match a with
  | .int _ m => match b with
    | .int _ n => some (intEq m n)
    | .sym _ e => seEq (.mk m []) e
    | _ => none
  | .sym _ e => match b with
    | .int _ n => seEq e (.mk n [])
    | .sym _ f => seEq e f
    | _ => none
  | _ => none
def byteLt (a b : V) : Option Bool :=
  match a with
  | .int _ m => match b with
    | .int _ n => some (intLt m n)
    | .sym _ e => seLt (.mk m []) e
    | _ => none
  | .sym _ e => match b with
    | .int _ n => seLt e (.mk n [])
    | .sym _ f => seLt e f
    | _ => none
  | _ => none

/-! ### strings -/
def strEq : List V → List V → Option Bool
  | [], [] => some true
  | [], _ :: _ => some false
  | _ :: _, [] => some false
  | a :: x, b :: y => match byteEq a b with
    | some true => strEq x y
    | some false => some false
    | none => none
def strLt : List V → List V → Option Bool
  | [], [] => some false
  | _ :: _, [] => some false
  | [], _ :: _ => some true
  | a :: x, b :: y => match byteLt a b with
    | some true => some true
    | some false => match byteEq a b with
      | some true => strLt x y
      | some false => some false
      | none => none
    | none => none
def obool (neg : Bool) (r : Option Bool) : Option V := ob r fun b => some (.bool (bsel neg (!b) b))

/-- two cells of a kind: 0 bool, 1 an integer, 2 a string -/
def leafEq (kind : Nat) (x y : V) : Option Bool :=
  match kind with
  | 0 => match x, y with
    | .bool a, .bool b => some (a == b)
    | _, _ => none
  | 1 => match x with
    | .int k a => match y with
      | .int j b => bsel (kindEq k j) (some (intEq a b)) none
      | .sym j e => bsel (kindEq k j) (seEq (.mk a []) e) none
      | _ => none
    | .sym k e => match y with
      | .int j b => bsel (kindEq k j) (seEq e (.mk b [])) none
      | .sym j f => bsel (kindEq k j) (seEq e f) none
      | _ => none
    | _ => none
  | _ => match x, y with
    | .str n a, .str m b => bsel (Nat.beq n m) (strEq a b) (some false)
    | _, _ => none
def cellsEq : List Nat → List V → List V → Option Bool
  | [], [], [] => some true
  | k :: ks, a :: x, b :: y => match leafEq k a b with
    | some true => cellsEq ks x y
    | some false => some false
    | none => none
  | _, _, _ => none

def intF (g : G2) (other : V → V → Option V) (x y : V) : Option V :=
  match x with
  | .int k a => match y with
    | .int j b => bsel (kindEq k j) (g k a b) none
    | _ => none
  | x => other x y
def shiftF (g : G2) (x y : V) : Option V :=
  match x with
  | .int k a => match y with
    | .int _ b => g k a b
    | _ => none
  | _ => none
def strF (g : List V → List V → Option V) (x y : V) : Option V :=
  match x with
  | .str _ a => match y with
    | .str _ b => g a b
    | _ => none
  | _ => none
def addF (x y : V) : Option V :=
  match x with
  | .str n a => match y with
    | .str m b => bsel (Nat.ble (n + m) 9223372036854775807) (some (.str (n + m) (appV a b))) none
    | _ => none
  | _ => none
def noF (_ _ : V) : Option V := none
def eqBool (neg : Bool) (x y : V) : Option V := match x, y with
  | .bool a, .bool b => obool neg (some (a == b))
  | _, _ => none
def eqStr (neg : Bool) (x y : V) : Option V := match x, y with
  | .str n a, .str m b => obool neg (bsel (Nat.beq n m) (strEq a b) (some false))
  | _, _ => none
def eqPtr (neg : Bool) (x y : V) : Option V := match x, y with
  | .nilp, .nilp => obool neg (some true)
  | .nilp, .ptr .. => obool neg (some false)
  | .ptr .., .nilp => obool neg (some false)
  | .nilp, .fp _ => obool neg (some false)
  | .fp _, .nilp => obool neg (some false)
  | _, _ => none
def eqSl (neg : Bool) (x y : V) : Option V := match x, y with
  | .nils, .nils => obool neg (some true)
  | .nils, .slice .. => obool neg (some false)
  | .slice .., .nils => obool neg (some false)
  | .nils, .fz .. => obool neg (some false)
  | .fz .., .nils => obool neg (some false)
  | .nils, .fe => obool neg (some false)
  | .fe, .nils => obool neg (some false)
  | _, _ => none
def eqMap (neg : Bool) (x y : V) : Option V := match x, y with
  | .nilm, .nilm => obool neg (some true)
  | .nilm, .map _ => obool neg (some false)
  | .map _, .nilm => obool neg (some false)
  | _, _ => none
def eqFn (neg : Bool) (x y : V) : Option V := match x, y with
  | .nilf, .nilf => obool neg (some true)
  | .nilf, .func .. => obool neg (some false)
  | .func .., .nilf => obool neg (some false)
  | _, _ => none
def eqAgg (neg : Bool) (len : Nat) (ks : List Nat) (x y : V) : Option V := match x, y with
  | .agg n a, .agg m b => bsel (band (Nat.beq n len) (Nat.beq m len)) (obool neg (cellsEq ks a b)) none
  | _, _ => none

section
variable (P : Program)

def szOf (t : TypeId) : Option Nat := (P.info? t).map (·.size)
/-- the kinds of the cells of a type whose equality goes cell by cell -/
def ksFields (rec : TypeId → Option (List Nat)) (szOf : TypeId → Option Nat) : List Field → List Nat → Option (List Nat)
  | [], acc => some acc
  | f :: fs, acc => match rec f.type, szOf f.type with
    | some ks, some n => bif f.name != "_" && Nat.beq f.offset acc.length && Nat.beq n ks.length then ksFields rec szOf fs (acc ++ ks) else none
    | _, _ => none
def kinds : Nat → TypeId → Option (List Nat)
  | 0, _ => none
  | d + 1, t =>
    match P.underlying t with
    | some .bool => some [0]
    | some (.int _) => some [1]
    | some .string => some [2]
    | some (.struct fs) => bif P.stoodInHeld t then none else ksFields (kinds d) (szOf P) fs.toList []
    | some (.array n e) => match kinds d e, szOf P e with
      | some ks, some m => bif Nat.beq m ks.length then some ((List.replicate n ks).flatten) else none
      | _, _ => none
    | _ => none

/-- a function of two values, wrapped -/
inductive F2 where
  | bad | mk (f : V → V → Option V)

def eqOf (neg : Bool) (g : G2) (s : S2) (t : TypeId) : F2 :=
  match P.underlying t with
  | some (.int _) => .mk (orF (intF g noF) (symF s))
  | some .bool => .mk (eqBool neg)
  | some .string => .mk (eqStr neg)
  | some (.pointer _) => .mk (eqPtr neg)
  | some (.slice _) => .mk (eqSl neg)
  | some (.map _ _) => .mk (eqMap neg)
  | some (.func _ _ _) => .mk (eqFn neg)
  | some (.struct _) | some (.array _ _) => match kinds P 20 t, szOf P t with
    | some ks, some n => bsel (Nat.beq n ks.length) (.mk (eqAgg neg n ks)) .bad
    | _, _ => .bad
  | _ => .bad

def binF (op : BinOp) (t : TypeId) : F2 :=
  match op with
  | .add => .mk (orF (intF bAdd addF) (symF sAdd))
  | .sub => .mk (orF (intF bSub noF) (symF sSub))
  | .mul => .mk (orF (intF bMul noF) (symF sMul))
  | .quo => .mk (orF (orF (intF bQuo noF) (symF sQuo)) (ivF ivQuo))
  | .rem => .mk (orF (orF (intF bRem noF) (symF sRem)) (ivF ivRem))
  | .eql => eqOf P false bEq sEql t
  | .neq => eqOf P true bNe sNeq t
  | .lss => .mk (orF (intF bLt (strF fun a b => obool false (strLt a b))) (orF (symF sLss) (ivF ivLss)))
  | .leq => .mk (orF (intF bLe (strF fun a b => obool true (strLt b a))) (orF (symF sLeq) (ivF ivLeq)))
  | .gtr => .mk (orF (intF bGt (strF fun a b => obool false (strLt b a))) (orF (symF sGtr) (ivF ivGtr)))
  | .geq => .mk (orF (intF bGe (strF fun a b => obool true (strLt a b))) (orF (symF sGeq) (ivF ivGeq)))
  | .and => .mk (intF bAnd noF)
  | .or => .mk (intF bOr noF)
  | .xor => .mk (intF bXor noF)
  | .andNot => .mk (intF bAndNot noF)
  | .shl => .mk (shiftF bShl)
  | .shr => .mk (shiftF bShr)

def unF (op : UnOp) (x : V) : Option V :=
  match op, x with
  | .not, .bool b => some (.bool (!b))
  | .neg, .int k a => wInt k (iSub 0 a)
  | .neg, .sym k e => mkS k (seScl (-1) e)
  | .xor, .int k a => bXor k (bif k.signed then -1 else k.max) a
  | _, _ => none

/-! ### operands: a place among the region's own values, a temporary of the frame, or a constant -/
inductive OF where
  | loc (i : Nat) | tmp (k : Pos) | val (v : Option V)

/-- what is known where an operation stands: the names of the region's own values (the last first); which temporaries the frame keeps -/
structure Cx where
  gl : Nat → Option (List V)
  loc : List Nat
  keep : PT Unit
  nt : Nat

def locIdx (t : Nat) : List Nat → Option Nat
  | [] => none
  | u :: l => bsel (Nat.beq t u) (some 0) (match locIdx t l with
    | some i => some (i + 1)
    | none => none)

def tmpF (c : Cx) (t : Nat) : OF :=
  match locIdx t c.loc with
  | some i => .loc i
  | none => match PT.get (Pos.key t) c.keep with
    | some _ => .tmp (Pos.key t)
    | none => .val none
def opd (c : Cx) : Operand → OF
  | .tmp t => tmpF c t
  | .const v => .val (absV v)
  | .global g => .val (ob (c.gl g) fun l => some (.fp l))
  | .func f => .val (some (.func f []))
/-- the frame where an operation stands -/
structure Fr where
  env : List V
  tm : PT V
def ev (x : OF) (env : List V) (tm : PT V) : Option V := OF.rec (fun i => nth i env) (fun k => PT.get k tm) (fun v => v) x

inductive OFs where
  | nil | cons (x : OF) (l : OFs)
def opds (c : Cx) : List Operand → OFs
  | [] => .nil
  | x :: l => .cons (opd c x) (opds c l)
def evs (l : OFs) (env : List V) (tm : PT V) : Option (List V) :=
  OFs.rec (some []) (fun x _ ih => Option.rec none (fun v => Option.rec none (fun vs => some (v :: vs)) ih) (ev x env tm)) l

def natLit (v : V) : Option Nat :=
  match v with
  | .int _ n => match n with
    | .ofNat n => some n
    | .negSucc _ => none
  | _ => none

/-! ### types -/
def bytesOf' (t : TypeId) : Option Nat := (P.info? t).map (·.bytes)
def zeroOf (t : TypeId) : Option V := ((P.info? t).bind (·.zero)).bind absV
def isAggT (t : TypeId) : Option Bool :=
  match P.underlying t with
  | some (.struct _) | some (.array _ _) => some true
  | some _ => some false
  | none => none
/-- a value's cells and how many they are -/
def cellsOfV (v : V) : Option (Nat × List V) :=
  match v with
  | .agg n cs => some (n, cs)
  | .tup _ => none
  | v => some (1, [v])
def zeroCellsA (e : TypeId) : Option (Nat × List V) := (zeroOf P e).bind cellsOfV

/-! ### memory -/
def out1 (h : Heap) (v : Option V) : Out := Option.rec .bad (fun v => .one v h) v
def outH (r : Option Heap) : Out := match r with
  | some h => .one undefA h
  | none => .bad

/-- n of the c's cells (len of them), from off on -/
def rd (c : List V) (len off n : Nat) : Option (List V) :=
  bsel (Nat.ble (off + n) len) (some (bsel (band (Nat.beq off 0) (Nat.beq len n)) c (takeV n (dropV off c)))) none
def wr (c : List V) (len off : Nat) (n : Nat) (vs : List V) : Option (List V) :=
  bsel (Nat.ble (off + n) len) (some (bsel (band (Nat.beq off 0) (Nat.beq len n)) vs (wrV off vs n c))) none

def loadAgg (n : Nat) (h : Heap) (a : V) : Option V :=
  match a with
  | .ptr b off => match h.get b with
    | some (.blk c len _) => match rd c len off n with
      | some cs => some (.agg n cs)
      | none => none
    | _ => none
  | .fp l => match takeO n l with
    | some cs => some (.agg n cs)
    | none => none
  | _ => none
def loadOne (h : Heap) (a : V) : Option V :=
  match a with
  | .ptr b off => match h.get b with
    | some (.blk c _ _) => nth off c
    | _ => none
  | .fp l => nth 0 l
  | _ => none

def storeCellsA (h : Heap) (b : Nat) (off n : Nat) (vs : List V) : Option Heap :=
  match h.get b with
  | some (.blk c len t) => match wr c len off n vs with
    | some c' => some (h.put b (.blk c' len t))
    | none => none
  | _ => none

def storeN (n : Nat) (h : Heap) (a v : V) : Out :=
  match a with
  | .ptr b off =>
    match cellsOfV v with
    | some (m, vs) => bsel (Nat.beq m n) (outH (storeCellsA h b off n vs)) .bad
    | none => .bad
  | _ => .bad

def fieldOf (t : TypeId) (i : Nat) : Option Field :=
  match P.underlying t with
  | some (.struct fs) => fs[i]?
  | _ => none

def partA (agg : Bool) (n : Nat) (len : Nat) (cs : List V) (off : Nat) : Option V :=
  bsel agg (match rd cs len off n with
    | some l => some (.agg n l)
    | none => none) (nth off cs)

def fillA (len : Nat) (place : Nat → Option (Nat × Nat)) (cells : List V) : List (Nat × V) → Option (List V)
  | [] => some cells
  | (i, v) :: rest =>
    match place i with
    | none => none
    | some (off, size) => match cellsOfV v with
      | none => none
      | some (m, vs) =>
        bsel (Nat.beq m size)
          (match wr cells len off m vs with
          | some cells => fillA len place cells rest
          | none => none) none

inductive PFs where
  | nil | cons (i : Nat) (x : OF) (l : PFs)
def pfs (c : Cx) : List (Nat × Operand) → PFs
  | [] => .nil
  | (i, x) :: l => .cons i (opd c x) (pfs c l)
def evParts : PFs → List V → PT V → Option (List (Nat × V))
  | .nil, _, _ => some []
  | .cons i x xs, env, tm => match ev x env tm with
    | some y => match evParts xs env tm with
      | some ys => some ((i, y) :: ys)
      | none => none
    | none => none

def replV (z : List V) : Nat → List V
  | 0 => []
  | n + 1 => appV z (replV z n)

def structPlace (fs : Array Field) (i : Nat) : Option (Nat × Nat) :=
  match fs[i]? with
  | some f => match szOf P f.type with
    | some n => some (f.offset, n)
    | none => none
  | none => none

def elemOfSlice (t : TypeId) : Option TypeId :=
  match P.underlying t with
  | some (.slice e) => some e
  | _ => none

def isLit (v : V) : Bool := match v with
  | .int .u8 _ => true
  | _ => false
/-- the first n elements (of so many cells) of a slice or a string -/
def firstCellsA (h : Heap) (size n : Nat) (x : V) : Option (List V) :=
  match x with
  | .slice b off _ _ =>
    match h.get b with
    | some (.blk c len _) => rd c len off (n * size)
    | _ => none
  | .fz l _ => takeO (n * size) l
  | .nils => bsel (Nat.beq n 0) (some []) none
  | .fe => bsel (Nat.beq n 0) (some []) none
  | .str m s => bsel (band (Nat.ble n m) (band (Nat.beq size 1) ((takeV n s).all isLit))) (some (takeV n s)) none
  | _ => none
def lenA (x : V) : Option Nat :=
  match x with
  | .slice _ _ n _ => some n
  | .fz _ n => some n
  | .nils => some 0
  | .fe => some 0
  | .str n _ => some n
  | _ => none

def freshSlice (h : Heap) (cells : List V) (n size : Nat) : Out :=
  .one (.slice h.next 0 n (.rest 0)) (h.new (.blk cells (n * size) (.opn size)))

def appendOnto (size n : Nat) (new : List V) (h : Heap) (s : V) : Out :=
  match s with
  | .nils => bsel (Nat.beq n 0) (.one .nils h) (bsel (Nat.ble n 1000000) (freshSlice h new n size) .bad)
  | .fe => bsel (Nat.beq n 0) (.one .fe h) (bsel (Nat.ble n 1000000) (freshSlice h new n size) .bad)
  | .fx l len => bsel (band (Nat.ble (len + n) 1000000) (Nat.blt 0 n))
    (match takeO (len * size) l with
    | some old => freshSlice h (appV old new) (len + n) size
    | none => .bad) .bad
  | .slice b off len cap => bsel (Nat.ble (len + n) 1000000)
    (match cap with
    | .exact c =>
      bsel (Nat.ble (len + n) c)
        (match storeCellsA h b (off + len * size) (n * size) new with
        | some h => .one (.slice b off (len + n) (.exact c)) h
        | none => .bad)
        (match firstCellsA h size len s with
        | some old => freshSlice h (appV old new) (len + n) size
        | none => .bad)
    | .rest k =>
      match h.get b with
      | some (.blk c cl (.opn sz)) =>
        bsel (band (Nat.beq sz size) (Nat.beq off (k * size)))
          (bsel (Nat.ble (off + (len + n) * size) cl)
            (match storeCellsA h b (off + len * size) (n * size) new with
            | some h => .one (.slice b off (len + n) (.rest k)) h
            | none => .bad)
            (bsel (Nat.beq (off + len * size) cl)
              (.one (.slice h.next 0 (len + n) (.rest 0)) ((h.del b).new (.blk (appV (dropV off c) new) ((len + n) * size) (.opn size))))
              .bad)) .bad
      | _ => .bad) .bad
  | _ => .bad

def appendN (size : Nat) (h : Heap) (s x : V) : Out :=
  match lenA x with
  | none => .bad
  | some n => match firstCellsA h size n x with
    | none => .bad
    | some new => appendOnto size n new h s

inductive OOF where
  | no | yes (x : OF)
def oopd (c : Cx) : Option Operand → OOF
  | none => .no
  | some x => .yes (opd c x)
def optNat (env : List V) (tm : PT V) (o : OOF) : Option (Option Nat) :=
  match o with
  | .no => some none
  | .yes x => match ev x env tm with
    | some v => match natLit v with
      | some n => some (some n)
      | none => none
    | none => none

abbrev SlT := Heap → V → Option Nat → Option Nat → Option Nat → Option V
abbrev SlF := Heap → V → Option Nat → Option Nat → Option Nat → Out
def sliceStr : SlT := fun _ x lo hi mx =>
  match x, mx with
  | .str n s, none =>
    let hh := hi.getD n
    let l := lo.getD 0
    bsel (band (Nat.ble hh n) (Nat.ble l hh)) (some (.str (hh - l) (takeV (hh - l) (dropV l s)))) none
  | _, _ => none
/-- a part of a slice in memory that does not change -/
def sliceFz (size : Nat) (l : List V) (n : Nat) (lo hi : Nat) : Option V :=
  bsel (band (Nat.ble hi n) (Nat.ble lo hi)) (ob (takeO ((hi - lo) * size) (dropV (lo * size) l)) fun r => some (.fz r (hi - lo))) none
def sliceArr (n size : Nat) : SlT := fun _ x lo hi mx =>
  match x, mx with
  | .ptr b off, none =>
    let hh := hi.getD n
    let l := lo.getD 0
    bsel (band (Nat.ble hh n) (Nat.ble l hh))
      (some (.slice b (bsel (Nat.beq n l) off (off + l * size)) (hh - l) (.exact (n - l)))) none
  | _, _ => none
/-- a slice of a slice, where its place is known -/
def sliceSlT (size : Nat) : SlT := fun h x lo hi mx =>
  match x with
  | .nils =>
    bsel (band (Nat.beq (hi.getD 0) 0) (band (Nat.beq (lo.getD 0) 0) (Nat.beq (mx.getD 0) 0))) (some .nils) none
  | .fe =>
    bsel (band (Nat.beq (hi.getD 0) 0) (band (Nat.beq (lo.getD 0) 0) (Nat.beq (mx.getD 0) 0))) (some .fe) none
  | .fz l n =>
    match mx with
    | none => sliceFz size l n (lo.getD 0) (hi.getD n)
    | some m => bsel (band (Nat.ble m n) (Nat.beq (hi.getD n) m))
      (bsel (Nat.beq (lo.getD 0) m) (some .fe) (bsel (Nat.beq (lo.getD 0) 0) (ob (takeO (m * size) l) fun r => some (.fx r m)) none)) none
  | .slice b off len (.exact c) =>
    let m := mx.getD c
    let hh := hi.getD len
    let l := lo.getD 0
    bsel (band (Nat.ble m c) (band (Nat.ble hh m) (Nat.ble l hh)))
      (some (.slice b (bsel (Nat.beq m l) off (off + l * size)) (hh - l) (.exact (m - l)))) none
  | .slice b off len (.rest k) =>
    let hh := hi.getD len
    let l := lo.getD 0
    match h.get b with
    | some (.blk _ cl (.opn sz)) =>
      bsel (band (Nat.beq sz size) (band (Nat.beq off (k * size)) (Nat.ble l hh)))
        (match mx with
        | some m =>
          bsel (band (Nat.ble hh m) (Nat.ble (off + m * size) cl))
            (some (.slice b (bsel (Nat.beq m l) off (off + l * size)) (hh - l) (.exact (m - l)))) none
        | none =>
          bsel (band (Nat.ble (off + hh * size) cl) (bor (Nat.blt l hh) (bor (Nat.beq l 0) (Nat.ble (off + (l + 1) * size) cl))))
            (some (.slice b (off + l * size) (hh - l) (.rest (k + l)))) none)
        none
    | _ => none
  | _ => none
/-- the empty rest of a slice whose capacity is not known: it gets a new name -/
def sliceSl (size : Nat) : SlF := fun h x lo hi mx =>
  match x with
  | .slice b off len (.rest k) =>
    let l := lo.getD 0
    match h.get b, mx with
    | some (.blk _ cl (.opn sz)), none =>
      bsel (band (Nat.beq sz size) (band (Nat.beq off (k * size)) (band (Nat.beq l (hi.getD len)) (Nat.beq (off + l * size) cl))))
        (.one (.slice h.next 0 0 (.rest 0)) ((h.del b).new (.blk [] 0 (.opn size)))) .bad
    | _, _ => .bad
  | _ => .bad

inductive SliceT where
  | bad | mk (f : SlT)
def sliceT (t : TypeId) : SliceT :=
  match P.underlying t with
  | some .string => .mk sliceStr
  | some (.array n e) => match szOf P e with
    | some s => .mk (sliceArr n s)
    | none => .bad
  | some (.slice e) => match szOf P e with
    | some s => .mk (sliceSlT s)
    | none => .bad
  | _ => .bad

/-! ### maps -/
def keyKind (t : TypeId) : Option Nat :=
  match P.underlying t with
  | some (.int _) => some 1
  | some .string => some 2
  | _ => none
def findME (kk : Nat) (k : V) (l : List ME) : Option (Option V) :=
  List.rec (some none) (fun e _ ih => Option.rec none (fun b => Bool.rec ih (some (some e.val)) b) (leafEq kk k e.key)) l
def updME (kk : Nat) (k : V) (v : V) (clock : Nat) (l : List ME) : Option (Bool × List ME) :=
  List.rec (some (true, [⟨k, v, clock⟩])) (fun e es ih => Option.rec none
    (fun b => Bool.rec (Option.rec none (fun r => some (r.1, e :: r.2)) ih) (some (false, ⟨k, v, e.born⟩ :: es)) b) (leafEq kk k e.key)) l

def lookIn (kk : Nat) (h : Heap) (m k : V) : Option (Option V) :=
  match m with
  | .nilm => some none
  | .map b => match h.get b with
    | some (.map es _) => findME kk k es
    | _ => none
  | _ => none
def isTup (v : V) : Bool := match v with
  | .tup _ => true
  | _ => false
def keyOk (kk : Nat) (v : V) : Bool := match v with
  | .int _ _ => Nat.beq kk 1
  | .str _ _ => Nat.beq kk 2
  | _ => false
def lookupK (kk : Nat) (z : V) (ok : Bool) (h : Heap) (m k : V) : Option V :=
  bsel (keyOk kk k)
    (match lookIn kk h m k with
    | some (some v) => some (bsel ok (.tup [v, .bool true]) v)
    | some none => some (bsel ok (.tup [z, .bool false]) z)
    | none => none) none

def mapUpdK (kk : Nat) (h : Heap) (m k v : V) : Out :=
  match m with
  | .map b =>
    bsel (bor (isTup v) (!keyOk kk k)) .bad
    (match h.get b with
    | some (.map es clock) => match updME kk k v clock es with
      | some (true, es) => .one undefA (h.put b (.map es (clock + 1)))
      | some (false, es) => .one undefA (h.put b (.map es clock))
      | none => .bad
    | _ => .bad)
  | _ => .bad

def memNat (n : Nat) : List Nat → Bool
  | [] => false
  | m :: l => bsel (Nat.beq n m) true (memNat n l)

def outL (l : List (V × Heap)) : Out := match l with
  | [(v, h)] => .one v h
  | l => .many l
def nextMap (h : Heap) (b m : Nat) (since : Nat) (seen : List Nat) (last : Nat) : Out :=
  match h.get m with
  | some (.map es clock) =>
    bsel (band (!seen.isEmpty) (band (!es.isEmpty) (es.all fun e => Nat.ble last e.born))) .bad
    (let left := es.filter fun e => !memNat e.born seen
    let old := left.filter fun e => Nat.blt e.born since
    let new := left.filter fun e => Nat.ble since e.born
    let stop : List (V × Heap) := bsel old.isEmpty [(.tup [.bool false], h)] []
    outL (stop ++ (old ++ new).map fun e => (.tup [.bool true, e.key, e.val], h.put b (.mit m since (e.born :: seen) clock))))
  | _ => .bad

def nextStr (h : Heap) (b : Nat) (s : List V) (n pos : Nat) : Out :=
  bsel (Nat.blt pos n)
    (match nth pos s with
    | some (.int _ (.ofNat c)) =>
      bsel (Nat.blt c 128) (.one (.tup [.bool true, .int .i64 pos, .int .i32 c]) (h.put b (.sit s n (pos + 1)))) .bad
    | _ => .bad) (.one (.tup [.bool false]) h)
def nextA (isStr : Bool) (h : Heap) (it : V) : Out :=
  match it with
  | .ptr b 0 =>
    match h.get b with
    | some (.mit m since seen last) => bsel isStr .bad (nextMap h b m since seen last)
    | some (.sit s n pos) => bsel isStr (nextStr h b s n pos) .bad
    | _ => .bad
  | _ => .bad

def findBorn (n : Nat) : List ME → Option ME
  | [] => none
  | e :: es => bsel (Nat.beq e.born n) (some e) (findBorn n es)

def entryA (h : Heap) (it : V) : Option V :=
  match it with
  | .ptr b 0 =>
    match h.get b with
    | some (.mit m _ (stamp :: _) stepped) =>
      match h.get m with
      | some (.map es clock) =>
        bsel (Nat.beq clock stepped)
          (match findBorn stamp es with
          | some e => some (.tup [e.key, e.val])
          | none => none) none
      | _ => none
    | _ => none
  | _ => none

def rangeS (h : Heap) (x : V) : Out := match x with
  | .str n s => .one (.ptr h.next 0) (h.new (.sit s n 0))
  | _ => .bad
def rangeM (h : Heap) (x : V) : Out := match x with
  | .map m => match h.get m with
    | some (.map _ clock) => .one (.ptr h.next 0) (h.new (.mit m clock [] clock))
    | _ => .bad
  | _ => .bad

def convInt (k : IntKind) (_ : Heap) (x : V) : Option V := match x with
  | .int _ n => some (.int k (wrapA k n))
  | .sym _ e => mkS k e
  | .any _ lo hi => mkIv k lo hi
  | _ => none
def isByte (c : V) : Bool := match c with
  | .int .u8 n => inRange .u8 n
  | .sym .u8 e => band (inRange .u8 (seLo e)) (inRange .u8 (seHi e))
  | _ => false
def convBytes (h : Heap) (x : V) : Option V := match x with
  | .nils => some (.str 0 [])
  | .fe => some (.str 0 [])
  | .fz l n => match takeO n l with
    | some cs => bsel (cs.all isByte) (some (.str n cs)) none
    | none => none
  | .slice b off n _ => match h.get b with
    | some (.blk c len _) => match rd c len off n with
      | some cs => bsel (cs.all isByte) (some (.str n cs)) none
      | none => none
    | _ => none
  | _ => none
def convStr (_ : Heap) (x : V) : Option V := match x with
  | .str n s => some (.str n s)
  | _ => none

abbrev H1 := Heap → V → Out
inductive F1 where
  | bad | mk (f : Heap → V → Option V)

def convF (src dst : TypeId) : F1 :=
  match P.underlying dst with
  | some (.int k) => match P.underlying src with
    | some (.int _) => .mk (convInt k)
    | _ => .bad
  | some .string => match P.underlying src with
    | some (.slice e) => match P.underlying e with
      | some (.int .u8) => .mk convBytes
      | _ => .bad
    | some .string => .mk convStr
    | _ => .bad
  | _ => .bad

def copyN (size : Nat) (h : Heap) (d s : V) : Out :=
  match lenA s with
  | some ls => match d with
    | .slice b off ld _ =>
      let n := Nat.min ls ld
      match firstCellsA h size n s with
      | some cells => match storeCellsA h b off (n * size) cells with
        | some h => .one (.int .i64 n) h
        | none => .bad
      | none => .bad
    | .nils => .one (.int .i64 0) h
    | _ => .bad
  | none => .bad

def foldS (f : SE → SE → Option SE) (k : IntKind) (acc : SE) : List V → Option V
  | [] => mkS k acc
  | v :: r => match toS v with
    | some (j, b) => bsel (kindEq k j) (match f acc b with
      | some c => foldS f k c r
      | none => none) none
    | none => none
def maxS (a b : SE) : Option SE := match seLt a b with
  | some true => some b
  | some false => some a
  | none => none
def minS (a b : SE) : Option SE := match seLt b a with
  | some true => some b
  | some false => some a
  | none => none
def foldInt (f : Int → Int → Int) (k : IntKind) (acc : Int) : List V → Option V
  | [] => some (.int k acc)
  | .int j b :: r => bsel (kindEq k j) (foldInt f k (f acc b) r) none
  | _ => none

abbrev HL := Heap → List V → Out
abbrev LT := Heap → List V → Option V
inductive BF where
  | bad | mk (f : HL)
inductive BT where
  | bad | mk (f : LT)

def lenStr : LT := fun _ a => match a with
  | [.str n _] => some (.int .i64 n)
  | _ => none
def lenArr (n : Nat) : LT := fun _ a => match a with
  | [_] => some (.int .i64 n)
  | _ => none
def lenSl : LT := fun _ a => match a with
  | [.slice _ _ n _] => some (.int .i64 n)
  | [.fz _ n] => some (.int .i64 n)
  | [.nils] => some (.int .i64 0)
  | [.fe] => some (.int .i64 0)
  | [.ord e _ _] => mkS .i64 e
  | _ => none
def lenMap : LT := fun h a => match a with
  | [.nilm] => some (.int .i64 0)
  | [.map b] => match h.get b with
    | some (.map es _) => some (.int .i64 es.length)
    | _ => none
  | _ => none
def capSl : LT := fun _ a => match a with
  | [.slice _ _ _ (.exact c)] => some (.int .i64 c)
  | [.nils] => some (.int .i64 0)
  | [.fe] => some (.int .i64 0)
  | _ => none
def maxB (f : Int → Int → Int) : LT := fun _ a => match a with
  | .int k a :: r => foldInt f k a r
  | _ => none
def maxSB (f : SE → SE → Option SE) : LT := fun _ a => match a with
  | v :: r => match toS v with
    | some (k, e) => foldS f k e r
    | none => none
  | _ => none
def orT (f g : LT) : LT := fun h a => match f h a with
  | some v => some v
  | none => g h a
def clearM : HL := fun h a => match a with
  | [.map b] => match h.get b with
    | some (.map _ clock) => .one (.tup []) (h.put b (.map [] clock))
    | _ => .bad
  | _ => .bad
def clearS (m : Nat) (z : List V) : HL := fun h a => match a with
  | [.slice b off n _] => outH (storeCellsA h b off (n * m) (replV z n))
  | [.nils] => .one (.tup []) h
  | _ => .bad
def notIntD (d : TypeDesc) : Bool := match d with
  | .int _ => false
  | _ => true
def appB (size : Nat) : HL := fun h a => match a with
  | [s, x] => appendN size h s x
  | _ => .bad
def copyB (size : Nat) : HL := fun h a => match a with
  | [s, x] => copyN size h s x
  | _ => .bad

def builtinT (b : Builtin) (ts : Array TypeId) : BT :=
  match ts[0]? with
  | none => .bad
  | some t =>
    match b with
    | .len => match P.underlying t with
      | some .string => .mk lenStr
      | some (.array n _) => .mk (lenArr n)
      | some (.slice _) => .mk lenSl
      | some (.map _ _) => .mk lenMap
      | _ => .bad
    | .cap => match P.underlying t with
      | some (.slice _) => .mk capSl
      | _ => .bad
    | .max => .mk (orT (maxB fun a b => bsel (intLt a b) b a) (maxSB maxS))
    | .min => .mk (orT (maxB fun a b => bsel (intLt b a) b a) (maxSB minS))
    | _ => .bad
def builtinF (b : Builtin) (ts : Array TypeId) : BF :=
  match ts[0]? with
  | none => .bad
  | some t =>
    match b with
    | .append => match elemOfSlice P t, ts[1]? with
      | some e, some t1 => match szOf P e, P.underlying t1, bytesOf' P e, zeroCellsA P e with
        | some n, some d, some by', some (m, _) => bsel (band (band (Nat.blt 0 n) (Nat.beq m n)) (band (notIntD d) (Nat.ble by' 65536))) (.mk (appB n)) .bad
        | _, _, _, _ => .bad
      | _, _ => .bad
    | .copy => match elemOfSlice P t with
      | some e => match szOf P e with
        | some n => .mk (copyB n)
        | none => .bad
      | none => .bad
    | .clear => match P.underlying t with
      | some (.map _ _) => .mk clearM
      | some (.slice e) => match zeroCellsA P e with
        | some (m, z) => .mk (clearS m z)
        | none => .bad
      | _ => .bad
    | _ => .bad

def countI (c : Int) : List V → Nat
  | [] => 0
  | .int _ x :: l => bsel (intEq x c) (countI c l + 1) (countI c l)
  | _ :: l => countI c l
def idxI (c : Int) : Nat → List V → Int
  | _, [] => -1
  | n, .int _ x :: l => bsel (intEq x c) n (idxI c (n + 1) l)
  | n, _ :: l => idxI c (n + 1) l

def extCount : LT := fun _ a => match a with
  | [.str _ s, .int .u8 c] => bsel (band (s.all isLit) (inRange .u8 c)) (some (.int .i64 (countI c s))) none
  | _ => none
def extIdx : LT := fun _ a => match a with
  | [.str _ s, .int .u8 c] => bsel (band (s.all isLit) (inRange .u8 c)) (some (.int .i64 (idxI c 0 s))) none
  | _ => none
def extOver (size : Nat) : LT := fun h args =>
  match args with
  | [.slice a oa la _, .slice b ob lb _] =>
    bsel (bor (Nat.beq la 0) (bor (Nat.beq lb 0) (Nat.beq size 0))) (some (.bool false))
      (bsel (Nat.beq a b) (some (.bool (band (Nat.blt oa (ob + lb * size)) (Nat.blt ob (oa + la * size)))))
        (match h.get a, h.get b with
        | some (.blk _ _ _), some (.blk _ _ _) => some (.bool false)
        | _, _ => none))
  | [.nils, .slice ..] => some (.bool false)
  | [.slice .., .nils] => some (.bool false)
  | [.nils, .nils] => some (.bool false)
  | _ => none
def extF (f : Func) : BT :=
  bif f.name == "internal/bytealg.CountString" then .mk extCount
  else bif f.name == "internal/bytealg.IndexByteString" then .mk extIdx
  else bif f.origin == "slices.overlaps" then
      match (f.params[0]?).bind (elemOfSlice P) with
      | some e => match szOf P e with
        | some size => .mk (extOver size)
        | none => .bad
      | none => .bad
  else .bad

abbrev CallF := FuncId → List V → Heap → Out

def capsArgs (l : List (Nat × Nat)) : List V := l.map fun p => .ptr p.1 p.2
def makeCaps : List V → Option (List (Nat × Nat))
  | [] => some []
  | .ptr b o :: r => match makeCaps r with
    | some l => some ((b, o) :: l)
    | none => none
  | _ => none

/-! ### operations, ready to run -/
abbrev OpR := CallF → List V → PT V → Heap → Out
inductive OpF where
  | bad | mk (f : OpR)
/-- an operation that only reads -/
abbrev TkR := List V → PT V → Heap → Option V
inductive TkF where
  | bad | mk (f : TkR)

abbrev T1 := Heap → V → Option V
abbrev T2 := Heap → V → V → Option V
def bindV (x : Option V) (f : V → Out) : Out := Option.rec .bad f x
def t1 (f : T1) (x : OF) : TkR := fun env tm h => ob (ev x env tm) fun v => f h v
def t2 (f : T2) (x y : OF) : TkR := fun env tm h => ob (ev x env tm) fun v => ob (ev y env tm) fun u => f h v u
def o1 (f : H1) (x : OF) : OpR := fun _ env tm h => bindV (ev x env tm) fun v => f h v
def o2 (f : Heap → V → V → Out) (x y : OF) : OpR := fun _ env tm h => bindV (ev x env tm) fun v => bindV (ev y env tm) fun u => f h v u
def o3 (f : Heap → V → V → V → Out) (x y z : OF) : OpR := fun _ env tm h => bindV (ev x env tm) fun v => bindV (ev y env tm) fun u => bindV (ev z env tm) fun w => f h v u w
def tMove : T1 := fun _ v => some v
def tPick (a b c : OF) : TkR := fun env tm _ =>
  ob (ev c env tm) fun v => match v with
    | .bool t => bsel t (ev a env tm) (ev b env tm)
    | _ => none
def tBuild (n : Nat) (z : List V) (place : Nat → Option (Nat × Nat)) (ps : PFs) : TkR := fun env tm _ =>
  match evParts ps env tm with
  | some vs => match fillA n place z vs with
    | some c => some (.agg n c)
    | none => none
  | none => none
def elemPlace (n : Nat) (i : Nat) : Option (Nat × Nat) := some (i * n, n)
def tNil : T1 := fun _ v => match v with
  | .ptr b off => some (.ptr b off)
  | .fp l => some (.fp l)
  | .func f cs => some (.func f cs)
  | _ => none
def tArrPtr (n : Nat) : T1 := fun _ v => match v with
  | .slice b off len _ => bsel (Nat.ble n len) (some (.ptr b off)) none
  | _ => none
def tFunc (f : FuncId) (cs : OFs) : TkR := fun env tm _ =>
  match evs cs env tm with
  | some vs => match makeCaps vs with
    | some cs => some (.func f cs)
    | none => none
  | none => none
def tSlice (f : SlT) (x : OF) (lo hi mx : OOF) : TkR := fun env tm h =>
  match ev x env tm, optNat env tm lo, optNat env tm hi, optNat env tm mx with
  | some v, some lo, some hi, some mx => f h v lo hi mx
  | _, _, _, _ => none
def oSlice (f : SlF) (x : OF) (lo hi mx : OOF) : OpR := fun _ env tm h =>
  match ev x env tm, optNat env tm lo, optNat env tm hi, optNat env tm mx with
  | some v, some lo, some hi, some mx => f h v lo hi mx
  | _, _, _, _ => .bad
def tFieldAddr (off : Nat) : T1 := fun _ v => match v with
  | .ptr b o => some (.ptr b (o + off))
  | .fp l => some (.fp (dropV off l))
  | _ => none
def tField (agg : Bool) (n off : Nat) : T1 := fun _ v => match v with
  | .agg len cs => partA agg n len cs off
  | _ => none
def tIdxArr (n s : Nat) : T2 := fun _ v i => match v with
  | .ptr b off => match natLit i with
    | some j => bsel (Nat.blt j n) (some (.ptr b (off + j * s))) none
    | none => none
  | .fp l => match natLit i with
    | some j => bsel (Nat.blt j n) (some (.fp (dropV (j * s) l))) none
    | none => none
  | _ => none
def isTrue (r : Option Bool) : Bool := match r with
  | some b => b
  | none => false
def idxOk (len idx e : SE) : Bool := band (isTrue (seEq e idx)) (band (isTrue (seLt idx len)) (!intLt (seLo idx) 0))
def tIdxSl (s : Nat) : T2 := fun _ v i => match v with
  | .slice b off n _ => match natLit i with
    | some j => bsel (Nat.blt j n) (some (.ptr b (off + j * s))) none
    | none => none
  | .fz l n => match natLit i with
    | some j => bsel (Nat.blt j n) (some (.fp (dropV (j * s) l))) none
    | none => none
  | .ord len idx u => match toS i with
    | some (_, e) => bsel (band (Nat.beq s 1) (idxOk len idx e)) (some (.fp [u])) none
    | none => none
  | _ => none
def tIdxAgg (agg : Bool) (n s : Nat) : T2 := fun _ v i => match v with
  | .agg len cs => match natLit i with
    | some j => bsel (Nat.blt j n) (partA agg s len cs (j * s)) none
    | none => none
  | _ => none
def tIdxStr : T2 := fun _ v i => match v with
  | .str m s => match natLit i with
    | some j => bsel (Nat.blt j m)
      (match nth j s with
      | some (.int .u8 n) => bsel (inRange .u8 n) (some (.int .u8 n)) none
      | some (.sym .u8 e) => some (.sym .u8 e)
      | _ => none) none
    | none => none
  | _ => none
def tExtract (i : Nat) : T1 := fun _ v => match v with
  | .tup l => nth i l
  | _ => none
def tList (f : LT) (xs : OFs) : TkR := fun env tm h =>
  match evs xs env tm with
  | some vs => f h vs
  | none => none

def oNew (n : Nat) (z : List V) : OpR := fun _ _ _ h => .one (.ptr h.next 0) (h.new (.blk z n .exact))
def oBox (size : Nat) : H1 := fun h v => match cellsOfV v with
  | some (n, z) => bsel (Nat.beq n size) (.one (.ptr h.next 0) (h.new (.blk z n .exact))) .bad
  | none => .bad
def oBuildSlice (m : Nat) (z : List V) (len n : Nat) (ps : PFs) : OpR := fun _ env tm h =>
  match evParts ps env tm with
  | some vs => match fillA m (elemPlace n) z vs with
    | some c => .one (.slice h.next 0 len (.exact len)) (h.new (.blk c m .exact))
    | none => .bad
  | none => .bad
def oMap0 : OpR := fun _ _ _ h => .one (.map h.next) (h.new (.map [] 0))
def oMap1 : H1 := fun h v => match v with
  | .int _ _ => .one (.map h.next) (h.new (.map [] 0))
  | _ => .bad
def oMakeSlice (m : Nat) (z : List V) (bytes : Nat) : Heap → V → V → Out := fun h l c =>
  match natLit l, natLit c with
  | some l, some c =>
    bsel (band (Nat.ble l c) (band (Nat.ble (c * bytes) 140737488355328) (Nat.ble c 1000000)))
      (.one (.slice h.next 0 l (.exact c)) (h.new (.blk (replV z c) (c * m) .exact))) .bad
  | _, _ => .bad
def oList (f : HL) (xs : OFs) : OpR := fun _ env tm h =>
  match evs xs env tm with
  | some vs => f h vs
  | none => .bad
def oCall (f : FuncId) (xs : OFs) : OpR := fun call env tm h =>
  match evs xs env tm with
  | some vs => call f vs h
  | none => .bad
def oCallV (f : OF) (xs : OFs) : OpR := fun call env tm h =>
  match ev f env tm with
  | some (.func f caps) => match evs xs env tm with
    | some vs => call f (vs ++ capsArgs caps) h
    | none => .bad
  | _ => .bad

/-- Operations that only read. -/
def tkF (c : Cx) (o : Oper) : TkF :=
  match o.op with
  | .move x | .assign x => .mk (t1 tMove (opd c x))
  | .pick x a b => .mk (tPick (opd c a) (opd c b) (opd c x))
  | .build t ps =>
    match zeroOf P t with
    | some (.agg n z) => match P.underlying t with
      | some (.struct fs) => bsel (fs.toList.all fun f => (szOf P f.type).isSome) (.mk (tBuild n z (structPlace P fs) (pfs c ps.toList))) .bad
      | some (.array _ e) => match szOf P e with
        | some s => .mk (tBuild n z (elemPlace s) (pfs c ps.toList))
        | none => .bad
      | _ => .bad
    | _ => .bad
  | .load t x => match isAggT P t with
    | some true => match szOf P t with
      | some n => .mk (t1 (loadAgg n) (opd c x))
      | none => .bad
    | some false => .mk (t1 loadOne (opd c x))
    | none => .bad
  | .nilCheck x => .mk (t1 tNil (opd c x))
  | .binOp op t x y _ => match binF P op t with
    | .mk f => .mk (t2 (fun _ a b => f a b) (opd c x) (opd c y))
    | .bad => .bad
  | .unOp op _ x => .mk (t1 (fun _ a => unF op a) (opd c x))
  | .convert s d x => match convF P s d with
    | .mk f => .mk (t1 f (opd c x))
    | .bad => .bad
  | .sliceToArrayPointer t x => match P.underlying t with
    | some (.array n _) => .mk (t1 (tArrPtr n) (opd c x))
    | _ => .bad
  | .makeFunc (.func f) first caps => match first.toList with
    | [] => .mk (tFunc f (opds c caps.toList))
    | _ => .bad
  | .slice t x lo hi mx => match sliceT P t with
    | .mk f => bsel (band mx.isSome hi.isNone) .bad (.mk (tSlice f (opd c x) (oopd c lo) (oopd c hi) (oopd c mx)))
    | .bad => .bad
  | .fieldAddr t x i => match fieldOf P t i with
    | some f => match szOf P f.type with
      | some n => bsel (Nat.beq n 0) .bad (.mk (t1 (tFieldAddr f.offset) (opd c x)))
      | none => .bad
    | none => .bad
  | .field t x i => match fieldOf P t i with
    | some f => match isAggT P f.type, szOf P f.type with
      | some a, some n => .mk (t1 (tField a n f.offset) (opd c x))
      | _, _ => .bad
    | none => .bad
  | .indexAddr t x i => match P.underlying t with
    | some (.array n e) => match szOf P e with
      | some s => .mk (t2 (tIdxArr n s) (opd c x) (opd c i))
      | none => .bad
    | some (.slice e) => match szOf P e with
      | some s => .mk (t2 (tIdxSl s) (opd c x) (opd c i))
      | none => .bad
    | _ => .bad
  | .index t x i => match P.underlying t with
    | some (.array n e) => match isAggT P e, szOf P e with
      | some a, some s => .mk (t2 (tIdxAgg a n s) (opd c x) (opd c i))
      | _, _ => .bad
    | some .string => .mk (t2 tIdxStr (opd c x) (opd c i))
    | _ => .bad
  | .lookup t x i ok => match P.underlying t with
    | some (.map kt et) => match keyKind P kt, zeroOf P et with
      | some kk, some z => .mk (t2 (lookupK kk z ok) (opd c x) (opd c i))
      | _, _ => .bad
    | _ => .bad
  | .entry it => .mk (t1 entryA (opd c it))
  | .extract t i => .mk (t1 (tExtract i) (opd c t))
  | .call k =>
    match k.callee with
    | .builtin b => match builtinT P b k.argTypes with
      | .mk f => .mk (tList f (opds c k.args.toList))
      | .bad => .bad
    | .value (.func f) => match P.funcs[f]? with
      | some fn => match fn.body with
        | some _ => .bad
        | none => match extF P fn with
          | .mk g => .mk (tList g (opds c k.args.toList))
          | .bad => .bad
      | none => .bad
    | _ => .bad
  | _ => .bad

/-- Operations that make or change memory, or call. -/
def efF (c : Cx) (o : Oper) : OpF :=
  match o.op with
  | .alloc e => match zeroCellsA P e with
    | some (n, z) => .mk (oNew n z)
    | none => .bad
  | .box e x => match szOf P e with
    | some n => .mk (o1 (oBox n) (opd c x))
    | none => .bad
  | .buildSlice t len ps =>
    match elemOfSlice P t with
    | some e => match szOf P e, zeroCellsA P e with
      | some n, some (m, z) => bsel (band (Nat.ble (len * n) 16777216) (band (Nat.beq m n) (Nat.blt 0 n))) (.mk (oBuildSlice (len * n) (replV z len) len n (pfs c ps.toList))) .bad
      | _, _ => .bad
    | none => .bad
  | .store t x y => match szOf P t with
    | some n => .mk (o2 (storeN n) (opd c x) (opd c y))
    | none => .bad
  | .makeMap t r => match P.underlying t with
    | some (.map _ _) => match r with
      | none => .mk oMap0
      | some x => .mk (o1 oMap1 (opd c x))
    | _ => .bad
  | .makeSlice t l n => match elemOfSlice P t with
    | some e => match szOf P e, zeroCellsA P e, bytesOf' P e with
      | some s, some (m, z), some by' => bsel (band (Nat.beq s m) (Nat.blt 0 m)) (.mk (o2 (oMakeSlice m z by') (opd c l) (opd c n))) .bad
      | _, _, _ => .bad
    | none => .bad
  | .slice t x lo hi mx => match elemOfSlice P t with
    | some e => match szOf P e with
      | some s => bsel (band mx.isSome hi.isNone) .bad (.mk (oSlice (sliceSl s) (opd c x) (oopd c lo) (oopd c hi) (oopd c mx)))
      | none => .bad
    | none => .bad
  | .mapUpdate t m k x | .insert t m k x => match P.underlying t with
    | some (.map kt _) => match keyKind P kt with
      | some kk => .mk (o3 (mapUpdK kk) (opd c m) (opd c k) (opd c x))
      | none => .bad
    | _ => .bad
  | .range t x => match P.underlying t with
    | some .string => .mk (o1 rangeS (opd c x))
    | some (.map _ _) => .mk (o1 rangeM (opd c x))
    | _ => .bad
  | .next it s => .mk (o1 (nextA s) (opd c it))
  | .call k =>
    match k.callee with
    | .builtin b => match builtinF P b k.argTypes with
      | .mk f => .mk (oList f (opds c k.args.toList))
      | .bad => .bad
    | .value f => match f with
      | .func f => .mk (oCall f (opds c k.args.toList))
      | f => .mk (oCallV (opd c f) (opds c k.args.toList))
    | _ => .bad
  | _ => .bad

def isSlice (o : Op) : Bool := match o with
  | .slice .. => true
  | _ => false
/-- Any operation. (A slice: the form that may make a new name for an empty rest.) -/
def opF (c : Cx) (o : Oper) : OpF :=
  match tkF P c o with
  | .mk f => bsel (isSlice o.op)
      (match efF P c o with
      | .mk g => .mk fun call env tm h => match f env tm h with
        | some v => .one v h
        | none => g call env tm h
      | .bad => .mk fun _ env tm h => out1 h (f env tm h))
      (.mk fun _ env tm h => out1 h (f env tm h))
  | .bad => efF P c o
end

end
end Go.Ev
end

section
set_option autoImplicit false
namespace Go.Ev
noncomputable section

/-! ### regions -/
/-- what a region comes to -/
inductive RS where
  | bad | one (tm : PT V) (h : Heap) | many (l : List (PT V × Heap))
  deriving Inhabited
def RS.toList : RS → Option (List (PT V × Heap))
  | .bad => none
  | .one tm h => some [(tm, h)]
  | .many l => some l
def rsAll (k : V → Heap → RS) : List (V × Heap) → Option (List (PT V × Heap))
  | [] => some []
  | x :: l => match (k x.1 x.2).toList with
    | some a => match rsAll k l with
      | some b => some (a ++ b)
      | none => none
    | none => none
def rsMany (k : V → Heap → RS) (l : List (V × Heap)) : RS := match rsAll k l with
  | some l => .many l
  | none => .bad
def bindO (o : Out) (k : V → Heap → RS) : RS := Out.rec .bad k (rsMany k) o

/-- where a value goes: nowhere; among the region's own values; there and into the frame -/
inductive DF where
  | no | loc | per (k : Pos) | bad
def dF (c : Cx) : Option Tmp → DF
  | none => .no
  | some t => bsel (Nat.blt t c.nt) (match PT.get (Pos.key t) c.keep with
    | some _ => .per (Pos.key t)
    | none => .loc) .bad
def dCx (c : Cx) : Option Tmp → Cx
  | none => c
  | some t => ⟨c.gl, t :: c.loc, c.keep, c.nt⟩
abbrev KR := List V → PT V → Heap → RS
def putK (d : DF) (env : List V) (tm : PT V) (k : KR) (v : V) (h : Heap) : RS :=
  DF.rec (k env tm h) (k (v :: env) tm h) (fun p => k (v :: env) (PT.set p (some v) tm) h) .bad d

/-- a guard -/
inductive GF where
  | no | bad | mk (x : OF) (want : Bool)
def gF (c : Cx) (ops : Array Oper) (o : Oper) : GF :=
  match o.guard with
  | none => .no
  | some (j, want) => match (ops[j]?).bind (·.dst) with
    | some d => .mk (tmpF c d) want
    | none => .bad
def guardB (want : Bool) (yes no : RS) (v : V) : RS := match v with
  | .bool b => Bool.casesOn b (Bool.casesOn want yes no) (Bool.casesOn want no yes)
  | _ => no
def guardK (g : GF) (env : List V) (tm : PT V) (yes no : RS) : RS :=
  GF.rec yes .bad (fun x want => Option.rec .bad (guardB want yes no) (ev x env tm)) g

inductive OpsF where
  | nil | cons (g : GF) (d : DF) (f : OpF) (rest : OpsF)
  deriving Inhabited
def runOp (call : CallF) (d : DF) (f : OpF) (env : List V) (tm : PT V) (h : Heap) (k : KR) : RS :=
  OpF.rec .bad (fun f => bindO (f call env tm h) (putK d env tm k)) f
def runOps (call : CallF) (l : OpsF) : KR :=
  OpsF.rec (motive := fun _ => KR) (fun _ tm h => .one tm h)
    (fun g d f _ ih env tm h => guardK g env tm (runOp call d f env tm h ih) (putK d env tm ih undefA h)) l

section
variable (P : Program)
def opsF (ops : Array Oper) : Cx → List Oper → OpsF
  | _, [] => .nil
  | c, o :: l => .cons (gF c ops o) (dF c o.dst) (opF P c o) (opsF ops (dCx c o.dst) l)

/-- an operation that makes a block: its cells, how many they are; and what it hands back: a pointer, or a slice of so many -/
inductive MkF where
  | bad | mk (f : List V → PT V → Option (List V × Nat)) (len : Option Nat)
  deriving Inhabited
def mkV (len : Option Nat) (b : Nat) : V := match len with
  | none => .ptr b 0
  | some n => .slice b 0 n (.exact n)
def mkParts (n : Nat) (m : Nat) (z : List V) (ps : PFs) : List V → PT V → Option (List V × Nat) := fun env tm =>
  match evParts ps env tm with
  | some vs => match fillA m (elemPlace n) z vs with
    | some c => some (c, m)
    | none => none
  | none => none
def mkF (c : Cx) (o : Oper) : MkF :=
  match o.op with
  | .alloc e => match zeroCellsA P e with
    | some (n, z) => .mk (fun _ _ => some (z, n)) none
    | none => .bad
  | .buildSlice t len ps => match elemOfSlice P t with
    | some e => match szOf P e, zeroCellsA P e with
      | some n, some (m, z) => bsel (band (Nat.ble (len * n) 16777216) (band (Nat.beq m n) (Nat.blt 0 n))) (.mk (mkParts n (len * n) (replV z len) (pfs c ps.toList)) (some len)) .bad
      | _, _ => .bad
    | none => .bad
  | _ => .bad

/-! ### a region that draws its order, by a plan: 0: an operation that only reads, 1: one that acts, 2: one that makes a block -/
inductive DrF where
  | nil | bad | take (i : Nat) (g : GF) (d : DF) (f : TkF) (rest : DrF) | make (chk : List Nat) (g : GF) (d : DF) (f : MkF) (rest : DrF) | eff (chk : List Nat) (g : GF) (d : DF) (f : OpF) (rest : DrF)
  deriving Inhabited
def waits (o : Oper) (i : Nat) : Bool := o.after.toList.any fun e => Region.binds .any e && Nat.beq e.on i
/-! the static check of a plan -/
def dstsOf (ops : Array Oper) : List (Nat × Nat) := ops.toList.zipIdx.filterMap fun x => x.1.dst.map fun d => (d, x.2)
def lookN (t : Nat) : List (Nat × Nat) → Option Nat
  | [] => none
  | (a, b) :: l => bsel (Nat.beq a t) (some b) (lookN t l)
def nodupN : List (Nat × Nat) → Bool
  | [] => true
  | (a, _) :: l => match lookN a l with
    | some _ => false
    | none => nodupN l
def tmpOk (ops : Array Oper) (ds : List (Nat × Nat)) (i : Nat) (o : Oper) (t : Nat) : Bool := match lookN t ds with
  | some m => bor (waits o m) (match ops[m]? with
    | some q => waits q i
    | none => false)
  | none => true
def operandOk (ops : Array Oper) (ds : List (Nat × Nat)) (i : Nat) (o : Oper) (x : Operand) : Bool := match x with
  | .tmp t => tmpOk ops ds i o t
  | _ => true
def guardOk (ops : Array Oper) (ds : List (Nat × Nat)) (i : Nat) (o : Oper) : Bool := match o.guard with
  | none => true
  | some (j, _) => match (ops[j]?).bind (·.dst) with
    | some d => tmpOk ops ds i o d
    | none => false
/-- each later one waits for the acting one, or for one behind it -/
def laterOk (ops : Array Oper) : List Nat → List (Nat × Nat) → Bool
  | _, [] => true
  | since, (_, i) :: l => match ops[i]? with
    | some o => band (since.any (waits o)) (laterOk ops (i :: since) l)
    | none => false
def kindOk (ops : Array Oper) (kind i : Nat) (l : List (Nat × Nat)) : Bool := match kind with
  | 0 | 2 => true
  | _ => laterOk ops [i] l
def planOk (ops : Array Oper) (ds : List (Nat × Nat)) : List Nat → List (Nat × Nat) → Bool
  | _, [] => true
  | done, (kind, i) :: l => match ops[i]? with
    | some o => band (band (!memNat i done) (o.after.toList.all fun e => bor (!Region.binds .any e) (memNat e.on done)))
        (band (band (o.op.operands.toList.all (operandOk ops ds i o)) (guardOk ops ds i o)) (band (kindOk ops kind i l) (planOk ops ds (i :: done) l)))
    | none => false
def chkDr (ops : Array Oper) (pl : List (Nat × Nat)) : Bool :=
  band (band ((List.range ops.size).all fun i => memNat i (pl.map (·.2))) (nodupN (dstsOf ops))) (planOk ops (dstsOf ops) [] pl)
def drF (ops : Array Oper) : Cx → List Nat → List (Nat × Nat) → DrF
  | _, _, [] => .nil
  | c, done, (kind, i) :: l => match ops[i]? with
    | none => .bad
    | some o => match kind with
      | 0 => .take i (gF c ops o) (dF c o.dst) (tkF P c o) (drF ops (dCx c o.dst) (i :: done) l)
      | 2 => .make done (gF c ops o) (dF c o.dst) (mkF P c o) (drF ops (dCx c o.dst) done l)
      | _ => .eff (done.filter fun i => !waits o i) (gF c ops o) (dF c o.dst) (efF P c o) (drF ops (dCx c o.dst) done l)
end
def stEq : ST → ST → Bool
  | .mk k v lo hi, .mk k' v' lo' hi' => band (band (intEq k k') (Nat.beq v v')) (band (intEq lo lo') (intEq hi hi'))
def stsEq : List ST → List ST → Bool
  | [], [] => true
  | a :: x, b :: y => band (stEq a b) (stsEq x y)
  | _, _ => false
def seSame : SE → SE → Bool
  | .mk c ts, .mk d us => band (intEq c d) (stsEq ts us)
mutual
def vEq : V → V → Bool
  | .int k a, y => match y with
    | .int j b => band (kindEq k j) (intEq a b)
    | _ => false
  | .bool a, y => match y with
    | .bool b => a == b
    | _ => false
  | .ptr a b, y => match y with
    | .ptr c d => band (Nat.beq a c) (Nat.beq b d)
    | _ => false
  | .slice a b c (.exact d), y => match y with
    | .slice e f g (.exact i) => band (band (Nat.beq a e) (Nat.beq b f)) (band (Nat.beq c g) (Nat.beq d i))
    | _ => false
  | .slice a b c (.rest d), y => match y with
    | .slice e f g (.rest i) => band (band (Nat.beq a e) (Nat.beq b f)) (band (Nat.beq c g) (Nat.beq d i))
    | _ => false
  | .map a, y => match y with
    | .map b => Nat.beq a b
    | _ => false
  | .nilp, y => match y with
    | .nilp => true
    | _ => false
  | .nils, y => match y with
    | .nils => true
    | _ => false
  | .nilm, y => match y with
    | .nilm => true
    | _ => false
  | .nilf, y => match y with
    | .nilf => true
    | _ => false
  | .fe, y => match y with
    | .fe => true
    | _ => false
  | .func f cs, y => match cs with
    | [] => match y with
      | .func g ds => match ds with
        | [] => Nat.beq f g
        | _ => false
      | _ => false
    | _ => false
  | .sym k a, y => match y with
    | .sym j b => band (kindEq k j) (seSame a b)
    | _ => false
  | .any k a b, y => match y with
    | .any j c d => band (kindEq k j) (band (intEq a c) (intEq b d))
    | _ => false
  | .agg n x, y => match y with
    | .agg m z => band (Nat.beq n m) (vEqs x z)
    | _ => false
  | .str n x, y => match y with
    | .str m z => band (Nat.beq n m) (vEqs x z)
    | _ => false
  | .tup x, y => match y with
    | .tup z => vEqs x z
    | _ => false
  | .fz x n, y => match y with
    | .fz z m => band (Nat.beq n m) (vEqs x z)
    | _ => false
  | .fp x, y => match y with
    | .fp z => vEqs x z
    | _ => false
  | .ord .., _ => false
  | .fx .., _ => false
def vEqs : List V → List V → Bool
  | [], y => match y with
    | [] => true
    | _ :: _ => false
  | a :: x, y => match y with
    | b :: z => band (vEq a b) (vEqs x z)
    | [] => false
end
/-- what was read reads the same still -/
abbrev Fact := Heap → Bool
def factOf (f : TkR) (env : List V) (tm : PT V) (v : V) : Fact := fun h => match f env tm h with
  | some u => vEq v u
  | none => false
def factsOk (chk : List Nat) (l : List (Nat × Fact)) (h : Heap) : Bool := l.all fun f => bor (!memNat f.1 chk) (f.2 h)
abbrev KD := List V → PT V → Heap → List (Nat × Fact) → RS
def putD (d : DF) (env : List V) (tm : PT V) (k : KD) (v : V) (h : Heap) (fs : List (Nat × Fact)) : RS :=
  match d with
  | .no => k env tm h fs
  | .loc => k (v :: env) tm h fs
  | .per p => k (v :: env) (PT.set p (some v) tm) h fs
  | .bad => .bad
def guardD (g : GF) (env : List V) (tm : PT V) (yes no : RS) : RS :=
  match g with
  | .no => yes
  | .bad => .bad
  | .mk x want => match ev x env tm with
    | some (.bool b) => bsel (b == want) yes no
    | some _ => no
    | none => .bad
def effK (chk : List Nat) (d : DF) (env : List V) (tm : PT V) (k : KD) (fs : List (Nat × Fact)) (v : V) (h : Heap) : RS :=
  bsel (factsOk chk fs h) (putD d env tm k v h fs) .bad
def runDr (call : CallF) : DrF → KD
  | .nil, _, tm, h, _ => .one tm h
  | .bad, _, _, _, _ => .bad
  | .make chk g d f rest, env, tm, h, fs =>
    guardD g env tm
      (match f with
      | .bad => .bad
      | .mk f len => match f env tm with
        | some r => effK chk d env tm (runDr call rest) fs (mkV len h.next) (h.new (.blk r.1 r.2 .exact))
        | none => .bad)
      (putD d env tm (runDr call rest) undefA h fs)
  | .take i g d f rest, env, tm, h, fs =>
    guardD g env tm
      (match f with
      | .bad => .bad
      | .mk f => match f env tm h with
        | some v => putD d env tm (runDr call rest) v h ((i, factOf f env tm v) :: fs)
        | none => .bad)
      (putD d env tm (runDr call rest) undefA h fs)
  | .eff chk g d f rest, env, tm, h, fs =>
    guardD g env tm
      (match f with
      | .bad => .bad
      | .mk f => bindO (f call env tm h) (effK chk d env tm (runDr call rest) fs))
      (putD d env tm (runDr call rest) undefA h fs)

/-! ### code -/
inductive Ex where
  | normal | exit (id : Nat) | ret
  deriving Inhabited
/-- what code comes to -/
inductive Res where
  | bad | norm (tm : PT V) (h : Heap) | exit (id : Nat) (tm : PT V) (h : Heap) | ret (tm : PT V) (h : Heap) | many (l : List (Ex × PT V × Heap))
  deriving Inhabited
def Res.toList : Res → Option (List (Ex × PT V × Heap))
  | .bad => none
  | .norm tm h => some [(.normal, tm, h)]
  | .exit id tm h => some [(.exit id, tm, h)]
  | .ret tm h => some [(.ret, tm, h)]
  | .many l => some l
def resOf (e : Ex) (tm : PT V) (h : Heap) : Res := match e with
  | .normal => .norm tm h
  | .exit id => .exit id tm h
  | .ret => .ret tm h
def resAll (k : Ex → PT V → Heap → Res) : List (Ex × PT V × Heap) → Option (List (Ex × PT V × Heap))
  | [] => some []
  | x :: l => match (k x.1 x.2.1 x.2.2).toList with
    | some a => match resAll k l with
      | some b => some (a ++ b)
      | none => none
    | none => none
def resMany (k : Ex → PT V → Heap → Res) (l : List (Ex × PT V × Heap)) : Res := match resAll k l with
  | some l => .many l
  | none => .bad
def rsRes (r : RS) : Res := match r with
  | .bad => .bad
  | .one tm h => .norm tm h
  | .many l => .many (l.map fun x => (.normal, x.1, x.2))

inductive CF where
  | skip | ops (l : OpsF) | draw (l : DrF) | seq (a b : CF) | cond (x : OF) (a b : CF) | block (id : Nat) (c : CF) | loop (c : CF) | exit (id : Nat) | ret | bad

abbrev KC := CallF → PT V → Heap → Res
def exSkip : KC := fun _ tm h => .norm tm h
def exOps (l : OpsF) : KC := fun call tm h => rsRes (runOps call l [] tm h)
def exDraw (l : DrF) : KC := fun call tm h => rsRes (runDr call l [] tm h [])
def seqK (b : PT V → Heap → Res) (e : Ex) (tm : PT V) (h : Heap) : Res := match e with
  | .normal => b tm h
  | .exit id => .exit id tm h
  | .ret => .ret tm h
def exSeq (a b : KC) : KC := fun call tm h => Res.rec .bad (fun tm h => b call tm h) .exit .ret (resMany (seqK (b call))) (a call tm h)
def condV (a b : Res) (v : V) : Res := match v with
  | .bool t => bsel t a b
  | _ => .bad
def exCond (x : OF) (a b : KC) : KC := fun call tm h => Option.rec .bad (condV (a call tm h) (b call tm h)) (ev x [] tm)
def blockE (id : Nat) (j : Nat) (tm : PT V) (h : Heap) : Res := bsel (Nat.beq j id) (.norm tm h) (.exit j tm h)
def blockK (id : Nat) (e : Ex) (tm : PT V) (h : Heap) : Res := match e with
  | .normal => .norm tm h
  | .exit j => blockE id j tm h
  | .ret => .ret tm h
def exBlock (id : Nat) (a : KC) : KC := fun call tm h => Res.rec .bad .norm (blockE id) .ret (resMany (blockK id)) (a call tm h)
def iter (f : PT V → Heap → Res) (n : Nat) : PT V → Heap → Res :=
  Nat.rec (motive := fun _ => PT V → Heap → Res) (fun _ _ => .bad) (fun _ ih tm h => Res.rec .bad ih .exit .ret (resMany (seqK ih)) (f tm h)) n
def exLoop (a : KC) : KC := fun call tm h => iter (a call) 100000 tm h
def exExit (id : Nat) : KC := fun _ tm h => .exit id tm h
def exRet : KC := fun _ tm h => .ret tm h
def exBad : KC := fun _ _ _ => .bad
def exec (c : CF) : KC :=
  CF.rec (motive := fun _ => KC) exSkip exOps exDraw (fun _ _ a b => exSeq a b) (fun x _ _ a b => exCond x a b) (fun id _ a => exBlock id a) (fun _ a => exLoop a) exExit exRet exBad c

/-! ### what a function's frame must keep: what is read in another region than the one that made it -/
def addK (t : Nat) (k : PT Unit) : PT Unit := PT.set (Pos.key t) (some ()) k
def needT (done : List Nat) (k : PT Unit) (t : Nat) : PT Unit := match locIdx t done with
  | some _ => k
  | none => addK t k
def needO (done : List Nat) (k : PT Unit) : List Operand → PT Unit
  | [] => k
  | .tmp t :: l => needO done (needT done k t) l
  | _ :: l => needO done k l
def needOps (ops : Array Oper) : List Nat → PT Unit → List Oper → PT Unit
  | _, k, [] => k
  | done, k, o :: l =>
    let k := needO done k o.op.operands.toList
    let k := match o.guard with
      | some (j, _) => match (ops[j]?).bind (·.dst) with
        | some d => needT done k d
        | none => k
      | none => k
    needOps ops (match o.dst with | some d => d :: done | none => done) k l
def needPlan (ops : Array Oper) (pl : List (Nat × Nat)) : List Oper := pl.filterMap fun x => ops[x.2]?
abbrev Plans := Nat → Nat → List (Nat × Nat)
def needC (pl : Nat → List (Nat × Nat)) : Code → PT Unit → PT Unit
  | .region id ops d, k => needOps ops [] k (bif d then needPlan ops (pl id) else ops.toList)
  | .seq a b, k => needC pl b (needC pl a k)
  | .cond x a b, k => needC pl b (needC pl a (needO [] k [x]))
  | .block _ c, k => needC pl c k
  | .loop c, k => needC pl c k
  | _, k => k
def needR : List ResultVar → PT Unit → PT Unit
  | [], k => k
  | .tmp t :: l, k => needR l (addK t k)
  | .cell t _ :: l, k => needR l (addK t k)

/-! ### functions -/
inductive RF where
  | bad | tmp (x : OF) | agg (x : OF) (n : Nat) | one (x : OF)
inductive RFs where
  | one (r : RF) | many (l : List RF)
section
variable (P : Program)
def cF (pl : Nat → List (Nat × Nat)) (c : Cx) : Code → CF
  | .skip => .skip
  | .region id ops d => bsel d (bsel (chkDr ops (pl id)) (.draw (drF P ops c [] (pl id))) .bad) (.ops (opsF P ops c ops.toList))
  | .seq a b => .seq (cF pl c a) (cF pl c b)
  | .cond x a b => .cond (opd c x) (cF pl c a) (cF pl c b)
  | .block id a => .block id (cF pl c a)
  | .loop a => .loop (cF pl c a)
  | .exit id => .exit id
  | .ret => .ret
  | _ => .bad
def rF (c : Cx) : ResultVar → RF
  | .tmp t => .tmp (tmpF c t)
  | .cell a t => match isAggT P t with
    | some true => match szOf P t with
      | some n => .agg (tmpF c a) n
      | none => .bad
    | some false => .one (tmpF c a)
    | none => .bad
def rFs (c : Cx) : List ResultVar → RFs
  | [r] => .one (rF P c r)
  | rs => .many (rs.map (rF P c))
def resA (h : Heap) (tm : PT V) (r : RF) : Option V :=
  match r with
  | .bad => none
  | .tmp x => ev x [] tm
  | .agg x n => match ev x [] tm with
    | some p => loadAgg n h p
    | none => none
  | .one x => match ev x [] tm with
    | some p => loadOne h p
    | none => none
def resultsA (rs : RFs) (tm : PT V) (h : Heap) : Option V :=
  match rs with
  | .one r => resA h tm r
  | .many l => match optAll (resA h tm) l with
    | some vs => bsel (vs.any isTup) none (some (.tup vs))
    | none => none

def setArgs (keep : PT Unit) : Nat → List V → PT V → PT V
  | _, [], tm => tm
  | n, v :: vs, tm => setArgs keep (n + 1) vs (match PT.get (Pos.key n) keep with
    | some _ => PT.set (Pos.key n) (some v) tm
    | none => tm)

/-- A function, ready to run. -/
inductive FF where
  | bad | mk (ntmps : Nat) (keep : PT Unit) (c : CF) (r : RFs)
def keepOf (pl : Plans) (f : FuncId) (fn : Func) (c : Code) : PT Unit := needR fn.results.toList (needC (pl f) c .nil)
/-- what is handed along: the plans of drawn regions; which temporaries a function's frame keeps -/
structure Tab where
  gl : Nat → Option (List V)
  pl : Plans
  kp : FuncId → PT Unit
def fF (tb : Tab) (f : FuncId) : FF :=
  match P.funcs[f]? with
  | some fn => match fn.body with
    | some c => .mk fn.ntmps (tb.kp f) (cF P (tb.pl f) ⟨tb.gl, [], tb.kp f, fn.ntmps⟩ c) (rFs P ⟨tb.gl, [], tb.kp f, fn.ntmps⟩ fn.results.toList)
    | none => .bad
  | none => .bad

def outOpt (h : Heap) (v : Option V) : Out := out1 h v
def outsAll (r : RFs) : List (Ex × PT V × Heap) → Option (List (V × Heap))
  | [] => some []
  | (.exit _, _, _) :: _ => none
  | (_, tm, h) :: l => match resultsA r tm h with
    | some v => match outsAll r l with
      | some b => some ((v, h) :: b)
      | none => none
    | none => none
def leave (r : RFs) (x : Res) : Out :=
  Res.rec .bad (fun tm h => out1 h (resultsA r tm h)) (fun _ _ _ => .bad) (fun tm h => out1 h (resultsA r tm h))
    (fun l => match outsAll r l with
      | some l => .many l
      | none => .bad) x
def enter (call : CallF) (ff : FF) (args : List V) (h : Heap) : Out :=
  FF.rec .bad (fun n k c r => bsel (Nat.ble args.length n) (leave r (exec c call (setArgs k 0 args .nil) h)) .bad) ff

def callN (tb : Tab) (post : FuncId → CallF → CallF) (d : Nat) : CallF :=
  Nat.rec (motive := fun _ => CallF) (fun _ _ _ => .bad) (fun _ ih f args h => post f (fun f args h => enter ih (fF P tb f) args h) f args h) d
end

end
end Go.Ev
end

section
set_option autoImplicit false
namespace Go.Ev
noncomputable section

/-! ### calls in a memory of their own -/
/-- the form of a cell: plain, or a slice, with the forms of an element's cells -/
inductive Sh where
  | plain | sl (cs : List Sh)
  deriving Inhabited
abbrev Fz1 := V → Heap → Option (V × Heap)
/-- a cell that refers to no memory that can change -/
def leafV (v : V) (h : Heap) : Option (V × Heap) := match v with
  | .ptr .. | .slice .. | .map _ | .func .. | .agg .. | .tup _ => none
  | v => some (v, h)
/-- cells, one by one; the forms go round -/
def frzL (rec : Sh → Fz1) (cyc : List Sh) : List Sh → List V → Heap → Option (List V × Heap)
  | _, [], h => some ([], h)
  | cur, v :: l, h => match cur with
    | s :: cur => match rec s v h with
      | some r => match frzL rec cyc cur l r.2 with
        | some q => some (r.1 :: q.1, q.2)
        | none => none
      | none => none
    | [] => match cyc with
      | s :: cur => match rec s v h with
        | some r => match frzL rec cyc cur l r.2 with
          | some q => some (r.1 :: q.1, q.2)
          | none => none
        | none => none
      | [] => none
/-- there is room for n elements -/
def capOk (cap : ACap) (off n size : Nat) (t : Tail) : Bool := match cap with
  | .exact c => Nat.ble n c
  | .rest k => match t with
    | .opn sz => band (Nat.beq sz size) (Nat.beq off (k * sz))
    | .exact => false
def frzS (rec : Sh → Fz1) (cs : List Sh) (v : V) (h : Heap) : Option (V × Heap) := match v with
  | .slice b off n cap => match h.get b with
    | some (.blk c len t) => match rd c len off (n * cs.length) with
      | some l => match frzL rec cs cs l (h.del b) with
        | some q => bsel (capOk cap off n cs.length t) (some (.fz q.1 n, q.2)) none
        | none => none
      | none => none
    | _ => none
  | v => leafV v h
def frzV : Nat → Sh → Fz1
  | 0, _, v, h => leafV v h
  | d + 1, sh, v, h => match sh with
    | .plain => leafV v h
    | .sl cs => frzS (frzV d) cs v h
/-- a value; the forms of its cells -/
def frzA (shs : List Sh) (v : V) (h : Heap) : Option (V × Heap) := match v with
  | .agg n cs => match frzL (frzV 8) [] shs cs h with
    | some q => some (.agg n q.1, q.2)
    | none => none
  | v => match shs with
    | s :: _ => frzV 8 s v h
    | [] => none
def frzAs : List (List Sh) → List V → Heap → Option (List V × Heap)
  | _, [], h => some ([], h)
  | ss, v :: l, h => match ss with
    | s :: ss => match frzA s v h with
      | some r => match frzAs ss l r.2 with
        | some q => some (r.1 :: q.1, q.2)
        | none => none
      | none => none
    | [] => none
/-- a result: one, or many -/
def frzR (rs : List (List Sh)) (v : V) (h : Heap) : Option (V × Heap) := match v with
  | .tup l => match frzAs rs l h with
    | some q => some (.tup q.1, q.2)
    | none => none
  | v => match rs with
    | s :: _ => frzA s v h
    | [] => none
def emptyH : Heap := ⟨.nil, 0⟩
def vMem (v : V) : List V → Bool
  | [] => false
  | u :: l => bor (vEq v u) (vMem v l)
def frzRs (rs : List (List Sh)) : List (V × Heap) → Option (List V)
  | [] => some []
  | x :: l => match frzR rs x.1 x.2 with
    | some r => match frzRs rs l with
      | some q => some (bsel (vMem r.1 q) q (r.1 :: q))
      | none => none
    | none => none
/-- the values that a call may come to, in memory that does not change -/
def sandO (rs : List (List Sh)) (o : Out) : Option (List V) := match o with
  | .bad => none
  | .one v h => match frzR rs v h with
    | some r => some [r.1]
    | none => none
  | .many l => frzRs rs l
def den (call : CallF) (rs : List (List Sh)) (f : FuncId) (args : List V) : Option (List V) := sandO rs (call f args emptyH)
def outVs (h : Heap) (l : List V) : Out := match l with
  | [v] => .one v h
  | l => .many (l.map fun v => (v, h))
/-- how a function's call goes in a memory of its own: the forms of its parameters and results -/
structure Bnd where
  ps : List (List Sh)
  rs : List (List Sh)
abbrev Memo := FuncId → List V → Option (List V)
/-- refers to no memory -/
def plainC (v : V) : Bool := match v with
  | .int .. | .bool _ | .str .. | .sym .. | .any .. | .nilp | .nils | .nilm | .nilf | .fe => true
  | _ => false
def plainA (v : V) : Bool := match v with
  | .agg _ cs => cs.all plainC
  | v => plainC v
def plainV (v : V) : Bool := match v with
  | .tup l => l.all plainA
  | v => plainA v
def bndOut (h h' : Heap) (l : List V) : Out := bsel (l.all plainV) (outVs h l) (outVs h' l)
def bndCall (b : Bnd) (memo : Memo) (f : FuncId) (call : CallF) (args : List V) (h : Heap) : Out :=
  match frzAs b.ps args h with
  | some q => match memo f q.1 with
    | some l => bndOut h q.2 l
    | none => match den call b.rs f q.1 with
      | some l => bndOut h q.2 l
      | none => .bad
  | none => call f args h
def bndPost (bt : PT Bnd) (memo : Memo) (_ : FuncId) (call : CallF) : CallF := fun f args h =>
  match PT.get (Pos.key f) bt with
  | some b => bndCall b memo f call args h
  | none => call f args h
/-- what is known already -/
structure Fact1 where
  f : FuncId
  args : List V
  res : List V
def memoOf : List Fact1 → Memo
  | [], _, _ => none
  | x :: l, f, args => bsel (band (Nat.beq x.f f) (vEqs x.args args)) (some x.res) (memoOf l f args)

end
end Go.Ev
end
