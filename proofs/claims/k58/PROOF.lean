import PyProof.Rows.All
import Wide.All
import OpenK.AllK
import Wide.FinOn
import HandS.ForMost
import HandS.Words
import HandS.WordsExc
import KE.GoesComp
import KE.GoesMore
import KE.GoesEnum
import HandS.Conv
import HandS.DictComp
import HandS.Style
import HandS.Comp
import HandS.TryOnly
import HandS.Small
import HandS.Zip
import HandS.Iter
import HandS.WideBits
import HandS.CallSlots
import HandS.TupLen
import HandS.WordsDict
import KE.OsSortAny
import KE.KSortedM
import HandS.TupLe
import HandS.DeepEq
import HandS.Exc
import HandS.TupAny
import HandS.IsInst
import HandS.Deep
import HandS.Sort
import HandS.SortInts
import KE.SortData
import HandS.Base
import PySem.Challenge.RW_facesholes_k58_known_births
set_option Elab.async false
set_option linter.all false
set_option maxRecDepth 100000
/-! Pv: a small language of our own over plain data, with its meaning as total functions. -/
namespace Pv
open PySem

/-- data by value; containers that are written are told apart by cells -/
inductive D where
  | non | bl (b : Bool) | int (i : Int) | str (s : Str)
  | tup (xs : List D) | lst (xs : List D) | dct (ks vs : List D) | st (xs : List D)
  | ty (n : String) | fn (n : Nat) | cls (n : Nat) | obj (n : Nat) | scr (xs : List D) | kt (xs : List D)
instance : Inhabited D := ⟨.non⟩

mutual
def eqD : D → D → Bool
  | .non, .non => true
  | .bl a, .bl b => a == b
  | .bl a, .int j => (if a then 1 else 0) == j
  | .int i, .bl b => i == (if b then 1 else 0)
  | .int i, .int j => i == j
  | .str x, .str y => x == y
  | .lst xs, .lst ys => eqDs xs ys
  | .tup xs, .tup ys => eqDs xs ys
  | _, _ => false
def eqDs : List D → List D → Bool
  | [], [] => true
  | x :: xs, y :: ys => eqD x y && eqDs xs ys
  | _, _ => false
end

mutual
/-- data alone (no dict, no set, no object) at most n deep -/
def flatD : Nat → D → Bool
  | _, .non => true
  | _, .bl _ => true
  | _, .int _ => true
  | _, .str x => PyData.canLay0 (.str x)
  | 0, _ => false
  | n + 1, .tup xs => flatDs n xs
  | n + 1, .lst xs => flatDs n xs
  | _, _ => false
def flatDs : Nat → List D → Bool
  | _, [] => true
  | n, x :: xs => flatD n x && flatDs n xs
end

/-- a container of one's own: list, dict, set -/
def isC : D → Bool
  | .lst _ => true
  | .dct _ _ => true
  | .st _ => true
  | _ => false

/-- told by the value alone -/
def scal : D → Bool
  | .non => true
  | .bl _ => true
  | .int _ => true
  | .str _ => true
  | .ty _ => true
  | _ => false

inductive Bi where
  | len | all | any | sum | sorted | tuple | list | max | min | abs | int | divmod | isi | repr | str | bool | sset
  deriving DecidableEq
inductive Mt where
  | append | extend | pop | remove | index | bitlen | count
  deriving DecidableEq

mutual
inductive E where
  | lit (d : D) | loc (i : Nat) | gl (n : Nat)
  | bin (o : Operator) (a b : E) | neg (a : E)
  | cmp (o : CmpOp) (a b : E) | chn (o p : CmpOp) (a b c : E)
  | and (a b : E) | or (a b : E) | not (a : E)
  | ife (t a b : E)
  | tup (es : Es) | lst (es : Es) | dnw
  | idx (a b : E) | slc (a : E) (lo hi : Oe) | rev (a : E)
  | bi (f : Bi) (es : Es)
  | call (f : Nat) (es : Es)
  | mth (m : Mt) (o : E) (es : Es)
  | lc (t : T) (it : It) (c : Oe) (e : E) (own : List Nat)
  | dc (t : T) (it : It) (c : Oe) (k v : E) (own : List Nat)
  | rg1 (t : Bool) (a : E) | rg2 (t : Bool) (a b : E)
inductive Es where
  | nil | cons (e : E) (r : Es)
inductive Oe where
  | no | so (e : E)
inductive It where
  | e (a : E) | rng (es : Es) | enum (a : E) | zip (a b : E)
inductive T where
  | nm (i : Nat) | sub (o i : E) | tup (ts : Ts)
inductive Ts where
  | nil | cons (t : T) (r : Ts)
end

mutual
inductive S where
  | asg (t : T) (e : E) | asgs (ts : Ts) (es : Es) | ex (e : E) | ret (e : E) | ret0
  | ife (t : E) (a b : Ss) | whl (t : E) (b : Ss) | fr (t : T) (it : It) (b : Ss)
  | rse (c : Nat) (es : Es) | brk | cnt | pss | nvr
inductive Ss where
  | nil | cons (s : S) (r : Ss)
end

/-! ### states -/
inductive Slot where
  | un | va (d : D) | bo (d : D) | ce (k : Nat)
inductive Cel where
  | ow (d : D) | he (d : D) | fz (d : D)
def Cel.d : Cel → D
  | .ow d => d
  | .he d => d
  | .fz d => d
structure Ob where
  cls : Nat
  fs : List (Nat × D)
structure St where
  sl : List Slot
  ce : List Cel
  ob : List Ob
structure Xc where
  cls : Nat
  as : List D
inductive R (α : Type) where
  | ok (a : α) (s : St) | ex (x : Xc) (s : St) | no
def R.bind {α β : Type} (r : R α) (f : α → St → R β) : R β :=
  match r with
  | .ok a s => f a s
  | .ex x s => .ex x s
  | .no => .no
@[simp] theorem R.bind_ok {α β : Type} (a : α) (s : St) (f : α → St → R β) : (R.ok a s).bind f = f a s := rfl
@[simp] theorem R.bind_ex {α β : Type} (x : Xc) (s : St) (f : α → St → R β) : (R.ex x s : R α).bind f = .ex x s := rfl
@[simp] theorem R.bind_no {α β : Type} (f : α → St → R β) : (R.no : R α).bind f = .no := rfl
def R.of {α : Type} (o : Option α) (s : St) : R α :=
  match o with
  | some a => .ok a s
  | none => .no
@[simp] theorem R.of_some {α : Type} (a : α) (s : St) : R.of (some a) s = .ok a s := rfl
@[simp] theorem R.of_none {α : Type} (s : St) : R.of (none : Option α) s = .no := rfl

/-- what an expression gives: a value (fresh: a new container that nobody else holds), a cell, a borrowed value -/
inductive P where
  | pv (d : D) (f : Bool) | pc (k : Nat) | pb (d : D)
def deref (s : St) : P → Option D
  | .pv d _ => some d
  | .pc k => (s.ce[k]?).map Cel.d
  | .pb d => some d
def derefs (s : St) : List P → Option (List D)
  | [] => some []
  | p :: ps => match deref s p with
    | some d => (derefs s ps).map (d :: ·)
    | none => none
/-- the value is kept by something that never changes -/
def keep (p : P) (s : St) : R D :=
  match p with
  | .pv d _ => .ok d s
  | .pb d => if scal d then .ok d s else .no
  | .pc k => match s.ce[k]? with
    | some c => .ok c.d { s with ce := s.ce.set k (.fz c.d) }
    | none => .no
def keeps : List P → St → R (List D)
  | [], s => .ok [] s
  | p :: ps, s => (keep p s).bind fun d s => (keeps ps s).bind fun ds s => .ok (d :: ds) s

/-! ### operations by values -/
def small64 (i : Int) : Bool := decide (-(2 ^ 64) < i) && decide (i < 2 ^ 64)
def smallSh (i j : Int) : Bool := decide (0 ≤ j) && decide (j ≤ 1000000) && decide (i.natAbs < 2 ^ 64)
def lim : Nat := 16777216
def binD (o : Operator) (x y : D) : Option (D × Bool) :=
  match x, y with
  | .int i, .int j => match o with
    | .Add => some (.int (i + j), false)
    | .Sub => some (.int (i - j), false)
    | .Mult => if small64 i || small64 j then some (.int (i * j), false) else none
    | .FloorDiv => if decide (j ≠ 0) && decide (j.natAbs < 1073741824) then some (.int (i.fdiv j), false) else none
    | .Mod => if j ≠ 0 then some (.int (i.fmod j), false) else none
    | .Pow => if smallSh i j then some (.int (i ^ j.toNat), false) else none
    | .LShift => if smallSh i j then some (.int (i * 2 ^ j.toNat), false) else none
    | .RShift => if 0 ≤ j then some (.int (i / 2 ^ j.toNat), false) else none
    | .BitAnd => some (.int (Builtin.bitAnd i j), false)
    | .BitOr => some (.int (Builtin.bitOr i j), false)
    | .BitXor => some (.int (Builtin.bitXor i j), false)
    | _ => none
  | .tup xs, .tup ys => match o with
    | .Add => if xs.length + ys.length ≤ lim then some (.tup (xs ++ ys), false) else none
    | _ => none
  | .lst xs, .lst ys => match o with
    | .Add => if xs.length + ys.length ≤ lim then some (.lst (xs ++ ys), true) else none
    | _ => none
  | .str a, .str b => match o with
    | .Add => if a.length + b.length ≤ lim then some (.str (a ++ b), false) else none
    | _ => none
  | _, _ => none
/-- == of data -/
def sameD (x y : D) : Option Bool := if flatD 60 x && flatD 60 y then some (eqD x y) else none
def memD (x : D) (ys : List D) : Option Bool := if flatD 60 x && flatDs 59 ys then some (ys.any fun y => eqD y x) else none
/-- the kinds of keys: a number or a text; a tuple of these -/
def leafK : D → Bool
  | .int _ => true
  | .str _ => true
  | _ => false
def tupK : D → Bool
  | .tup xs => xs.all leafK
  | _ => false
def keyOk (ks : List D) (k : D) : Bool := (leafK k && ks.all leafK) || (tupK k && ks.all tupK)
def getD : List D → List D → D → Option D
  | k' :: ks, v :: vs, k => if eqD k' k then some v else getD ks vs k
  | _, _, _ => none
def putV : List D → List D → D → D → List D
  | k' :: ks, v :: vs, k, w => (if eqD k' k then w else v) :: putV ks vs k w
  | _, _, _, _ => []
def putD (ks vs : List D) (k w : D) : List D × List D := if ks.any (fun k' => eqD k' k) then (ks, putV ks vs k w) else (ks ++ [k], vs ++ [w])
def ltI : List D → List D → Option Bool
  | [], [] => some false
  | [], _ :: _ => some true
  | _ :: _, [] => some false
  | .int i :: xs, .int j :: ys => if i = j then ltI xs ys else some (decide (i < j))
  | _, _ => none
def allInt : List D → Bool
  | [] => true
  | .int _ :: r => allInt r
  | _ => false
def isNon : D → Bool
  | .non => true
  | _ => false
def isD (x y : D) : Option Bool :=
  match y with
  | .non => some (isNon x)
  | .bl b => match x with
    | .bl a => some (decide (a = b))
    | _ => none
  | _ => none
def cmpD (o : CmpOp) (x y : D) : Option Bool :=
  match o with
  | .Eq => sameD x y
  | .NotEq => (sameD x y).map (!·)
  | .Is => isD x y
  | .IsNot => (isD x y).map (!·)
  | .In => match y with
    | .dct ks vs => if keyOk ks x then some (getD ks vs x).isSome else none
    | .lst ys => memD x ys
    | .tup ys => memD x ys
    | .kt ys => memD x ys
    | _ => none
  | .NotIn => match y with
    | .dct ks vs => if keyOk ks x then some (!(getD ks vs x).isSome) else none
    | .lst ys => (memD x ys).map (!·)
    | .tup ys => (memD x ys).map (!·)
    | .kt ys => (memD x ys).map (!·)
    | _ => none
  | .Lt => match x, y with
    | .int i, .int j => some (decide (i < j))
    | .tup xs, .tup ys => if allInt xs && allInt ys then ltI xs ys else none
    | _, _ => none
  | .LtE => match x, y with
    | .int i, .int j => some (decide (i ≤ j))
    | _, _ => none
  | .Gt => match x, y with
    | .int i, .int j => some (decide (j < i))
    | _, _ => none
  | .GtE => match x, y with
    | .int i, .int j => some (decide (j ≤ i))
    | _, _ => none
def truthD : D → Option Bool
  | .bl b => some b
  | .int i => some (i != 0)
  | .non => some false
  | .lst xs => some (!xs.isEmpty)
  | .tup xs => some (!xs.isEmpty)
  | _ => none
def atD (xs : List D) (i : Int) : Option D :=
  if 0 ≤ i then (if i < xs.length then xs[i.toNat]? else none) else if -(xs.length : Int) ≤ i then xs[(i + xs.length).toNat]? else none
def idxD (x y : D) : Option D :=
  match x with
  | .scr xs => match y with
    | .int i => atD xs i
    | _ => none
  | .lst xs => match y with
    | .int i => atD xs i
    | _ => none
  | .tup xs => match y with
    | .int i => atD xs i
    | _ => none
  | .dct ks vs => if keyOk ks y then getD ks vs y else none
  | _ => none
def six (n d : Nat) : Option Int → Nat
  | none => d
  | some v => if v < 0 then (v + (n : Int)).toNat else min v.toNat n
def cutD (xs : List D) (lo hi : Option Int) : List D := (xs.drop (six xs.length 0 lo)).take (six xs.length xs.length hi - six xs.length 0 lo)
def slcD (x : D) (lo hi : Option Int) : Option (D × Bool) :=
  match x with
  | .scr xs => some (.lst (cutD xs lo hi), true)
  | .lst xs => some (.lst (cutD xs lo hi), true)
  | .tup xs => some (.tup (cutD xs lo hi), false)
  | _ => none
def revD : D → Option (D × Bool)
  | .lst xs => some (.lst xs.reverse, true)
  | _ => none
def itD : D → Option (List D)
  | .scr xs => some xs
  | .lst xs => some xs
  | .tup xs => some xs
  | _ => none
/-- sorting: whole numbers; tuples that hold whole numbers, none empty -/
def ltS : D → D → Bool
  | .int i, .int j => decide (i < j)
  | .tup xs, .tup ys => (ltI xs ys).getD false
  | _, _ => false
def isInt : D → Bool
  | .int _ => true
  | _ => false
def isTupI : D → Bool
  | .tup (x :: r) => allInt (x :: r)
  | _ => false
def ins (x : D) : List D → List D
  | [] => [x]
  | y :: r => if ltS y x then y :: ins x r else x :: y :: r
def isort : List D → List D
  | [] => []
  | x :: r => ins x (isort r)
def sortD (xs : List D) : Option (List D) := if xs.all isInt || xs.all isTupI then some (isort xs) else none
def sumD : List D → Option Int
  | [] => some 0
  | .int i :: r => (sumD r).map (i + ·)
  | _ => none
def bls : List D → Option (List Bool)
  | [] => some []
  | .bl b :: r => (bls r).map (b :: ·)
  | _ => none
def intL : List D → Option (List Int)
  | [] => some []
  | .int b :: r => (intL r).map (b :: ·)
  | _ => none
def maxI : List Int → Int
  | [] => 0
  | [x] => x
  | x :: r => if maxI r > x then maxI r else x
def minI : List Int → Int
  | [] => 0
  | [x] => x
  | x :: r => if minI r < x then minI r else x
/-- the built-in type of a value -/
def tyD : D → Option String
  | .non => some "NoneType"
  | .bl _ => some "bool"
  | .int _ => some "int"
  | .str _ => some "str"
  | .tup _ => some "tuple"
  | .lst _ => some "list"
  | .dct _ _ => some "dict"
  | _ => none
def isiS (u t : String) : Option Bool :=
  if t = "int" then some (decide (u = "int" ∨ u = "bool")) else if t = "bool" ∨ t = "tuple" ∨ t = "str" then some (decide (u = t)) else none
def isiD (x : D) (t : String) : Option Bool := (tyD x).bind fun u => isiS u t
def biD (f : Bi) (xs : List D) : Option (D × Bool) :=
  match f, xs with
  | .len, [.scr xs] => some (.int xs.length, false)
  | .len, [.lst xs] => some (.int xs.length, false)
  | .len, [.tup xs] => some (.int xs.length, false)
  | .len, [.dct ks _] => some (.int ks.length, false)
  | .all, [.lst xs] => (bls xs).map fun bs => (.bl (bs.all id), false)
  | .any, [.lst xs] => (bls xs).map fun bs => (.bl (bs.any id), false)
  | .sum, [.lst xs] => (sumD xs).map fun i => (.int i, false)
  | .sorted, [.lst xs] => (sortD xs).map fun ys => (.lst ys, true)
  | .tuple, [.lst xs] => some (.tup xs, false)
  | .tuple, [.tup xs] => some (.tup xs, false)
  | .list, [.lst xs] => some (.lst xs, true)
  | .list, [.tup xs] => some (.lst xs, true)
  | .max, [.int i, .int j] => some (.int (if j > i then j else i), false)
  | .min, [.int i, .int j] => some (.int (if j < i then j else i), false)
  | .max, [.lst xs] => match xs with
    | [] => none
    | _ => (intL xs).map fun ns => (.int (maxI ns), false)
  | .min, [.lst xs] => match xs with
    | [] => none
    | _ => (intL xs).map fun ns => (.int (minI ns), false)
  | .abs, [.int i] => some (.int (if i < 0 then -i else i), false)
  | .int, [.int i] => some (.int i, false)
  | .int, [.bl b] => some (.int (if b then 1 else 0), false)
  | .divmod, [.int i, .int j] => if decide (0 < j) && decide (j < 1073741824) then some (.tup [.int (i / j), .int (i % j)], false) else none
  | .isi, [x, .ty t] => (isiD x t).map fun b => (.bl b, false)
  | _, _ => none
def bitlen (i : Int) : Int := if i = 0 then 0 else (i.natAbs.log2 : Int) + 1
/-- methods that change nothing -/
def pureM (m : Mt) (x : D) (as : List D) : Option (D × Bool) :=
  match m, x, as with
  | .bitlen, .int i, [] => some (.int (bitlen i), false)
  | _, _, _ => none
/-- methods that change their object: what it becomes, what they give -/
def mutM (m : Mt) (x : D) (as : List D) : Option (D × D) :=
  match m, x, as with
  | .append, .lst xs, [y] => if xs.length < lim then some (.lst (xs ++ [y]), .non) else none
  | .extend, .lst xs, [.lst ys] => if xs.length + ys.length ≤ lim then some (.lst (xs ++ ys), .non) else none
  | _, _, _ => none
def isMut : Mt → Bool
  | .append => true
  | .extend => true
  | .pop => true
  | .remove => true
  | _ => false
/-- o[i] = v -/
def setD (x i v : D) : Option D :=
  match x with
  | .lst xs => match i with
    | .int k => if 0 ≤ k then (if k < xs.length then some (.lst (xs.set k.toNat v)) else none) else none
    | _ => none
  | .dct ks vs => if keyOk ks i && decide (ks.length < lim) then some (.dct (putD ks vs i v).1 (putD ks vs i v).2) else none
  | _ => none
end Pv

set_option Elab.async false
set_option linter.all false
set_option maxRecDepth 100000
namespace Pv
open PySem

/-! ### running -/
inductive Rf where
  | ok (d : D) (f : Bool) (ce : List Cel) (ob : List Ob) | ex (x : Xc) (ce : List Cel) (ob : List Ob) | no
structure Cl where
  fn : Nat → List Slot → List Cel → List Ob → Rf
  mo : Nat → List Bool     -- for each parameter: is it only looked at (lent)
  gl : Nat → Option D      -- the module's data
inductive Fl where
  | nx | rt (p : P) | bk | ct

/-- the arguments of a call: slots, cells (with the caller's own place) -/
structure Bd where
  sl : List Slot
  ce : List Cel
  to : List (Option Nat)
  ln : List Nat
def bind1 (lent : Bool) (p : P) (s : St) (b : Bd) : Option Bd :=
  match p with
  | .pv d true => some { b with sl := b.sl ++ [.ce b.ce.length], ce := b.ce ++ [.ow d], to := b.to ++ [none] }
  | .pv d false => some { b with sl := b.sl ++ [.va d] }
  | .pb d => if scal d then some { b with sl := b.sl ++ [.va d] } else if lent then some { b with sl := b.sl ++ [.bo d] } else none
  | .pc k => match s.ce[k]? with
    | some (.fz d) => some { b with sl := b.sl ++ [.va d] }
    | some (.he d) => if lent then some { b with sl := b.sl ++ [.bo d] } else none
    | some (.ow d) => if lent then (if b.to.contains (some k) then none else some { b with sl := b.sl ++ [.bo d], ln := k :: b.ln })
      else if b.to.contains (some k) || b.ln.contains k then none else some { b with sl := b.sl ++ [.ce b.ce.length], ce := b.ce ++ [.ow d], to := b.to ++ [some k] }
    | none => none
def binds : List Bool → List P → St → Bd → Option Bd
  | _, [], _, b => some b
  | [], p :: ps, s, b => (bind1 false p s b).bind fun x => binds [] ps s x
  | m :: ms, p :: ps, s, b => (bind1 m p s b).bind fun x => binds ms ps s x
/-- the cells that were handed on get what they hold behind the call -/
def backs : List (Option Nat) → List Cel → List Cel → List Cel
  | [], _, ce => ce
  | _, [], ce => ce
  | none :: r, _ :: cs, ce => backs r cs ce
  | some k :: r, c :: cs, ce => backs r cs (ce.set k c)
def callF (C : Cl) (f : Nat) (ps : List P) (s : St) : R P :=
  match binds (C.mo f) ps s ⟨[], [], [], []⟩ with
  | none => .no
  | some b => match C.fn f b.sl b.ce s.ob with
    | .ok d fr ce ob => .ok (.pv d fr) { s with ce := backs b.to ce s.ce, ob := ob }
    | .ex x ce ob => .ex x { s with ce := backs b.to ce s.ce, ob := ob }
    | .no => .no

def hold (p : P) (s : St) : St × Option Nat :=
  match p with
  | .pc k => match s.ce[k]? with
    | some (.ow d) => ({ s with ce := s.ce.set k (.he d) }, some k)
    | _ => (s, none)
  | _ => (s, none)
def letGo (o : Option Nat) (s : St) : St :=
  match o with
  | none => s
  | some k => match s.ce[k]? with
    | some (.he d) => { s with ce := s.ce.set k (.ow d) }
    | _ => s
def wipes (sl : List Slot) : List Nat → List Slot
  | [] => sl
  | i :: r => (wipes sl r).set i .un
/-- nothing may be raised here -/
def noEx {α : Type} (r : R α) : R α :=
  match r with
  | .ex _ _ => .no
  | r => r
def lcLoop (f : D → St → R (Option D)) : List D → St → R (List D)
  | [], s => .ok [] s
  | d :: ds, s => (f d s).bind fun o s => (lcLoop f ds s).bind fun r s => .ok (match o with | some y => y :: r | none => r) s
def dcLoop (f : D → St → R (Option (D × D))) : List D → List D × List D → St → R (List D × List D)
  | [], acc, s => .ok acc s
  | d :: ds, acc, s => (f d s).bind fun o s => match o with
    | none => dcLoop f ds acc s
    | some kv => if keyOk acc.1 kv.1 && decide (acc.1.length < lim) then dcLoop f ds (putD acc.1 acc.2 kv.1 kv.2) s else .no
def frLoop (f : D → St → R Fl) : List D → St → R Fl
  | [], s => .ok .nx s
  | d :: ds, s => (f d s).bind fun fl s => match fl with
    | .nx => frLoop f ds s
    | .ct => frLoop f ds s
    | .bk => .ok .nx s
    | .rt p => .ok (.rt p) s
def whLoop (t : St → R Bool) (f : St → R Fl) : Nat → St → R Fl
  | 0, _ => .no
  | n + 1, s => (t s).bind fun b s => if b then (f s).bind fun fl s => match fl with
      | .nx => whLoop t f n s
      | .ct => whLoop t f n s
      | .bk => .ok .nx s
      | .rt p => .ok (.rt p) s
    else .ok .nx s
def op1 (f : D → Option (D × Bool)) (s : St) (p : P) : Option P := (deref s p).bind fun x => (f x).map fun r => .pv r.1 r.2
def op2 (f : D → D → Option (D × Bool)) (s : St) (p q : P) : Option P := (deref s p).bind fun x => (deref s q).bind fun y => (f x y).map fun r => .pv r.1 r.2
def cmp2 (o : CmpOp) (s : St) (p q : P) : Option Bool := (deref s p).bind fun x => (deref s q).bind fun y => cmpD o x y
def enumD : Nat → List D → List D
  | _, [] => []
  | n, d :: ds => .tup [.int n, d] :: enumD (n + 1) ds
def zipD : List D → List D → List D
  | a :: as, b :: bs => .tup [a, b] :: zipD as bs
  | _, _ => []
def itL : D → Option (List D)
  | .scr xs => some xs
  | .lst xs => some xs
  | _ => none
def zip2 (d e : D) : Option (List D × List D) :=
  match d, e with
  | .tup xs, .tup ys => some (xs, ys)
  | d, e => (itL d).bind fun xs => (itL e).map fun ys => (xs, ys)
def rngD (lo : Int) : Nat → List D
  | 0 => []
  | n + 1 => .int lo :: rngD (lo + 1) n
def rgOk (a b : Int) : Bool := decide (-(2 ^ 62) ≤ a) && decide (a < 2 ^ 62) && decide (-(2 ^ 62) ≤ b) && decide (b < 2 ^ 62) && decide ((b - a).toNat ≤ 2 ^ 24)
def rgOf (t : Bool) (a b : Int) : Option (D × Bool) := if rgOk a b then some (if t then (.tup (rngD a (b - a).toNat), false) else (.lst (rngD a (b - a).toNat), true)) else none
def rngOf : List D → Option (List D)
  | [.int n] => if decide (-(2 ^ 62) ≤ n) && decide (n < 2 ^ 62) then some (rngD 0 n.toNat) else none
  | [.int a, .int b] => if decide (-(2 ^ 62) ≤ a) && decide (a < 2 ^ 62) && decide (-(2 ^ 62) ≤ b) && decide (b < 2 ^ 62) then some (rngD a (b - a).toNat) else none
  | _ => none
/-- a name's store -/
def putNm (i : Nat) (p : P) (s : St) : R Unit :=
  match p with
  | .pv d true => .ok () { s with sl := s.sl.set i (.ce s.ce.length), ce := s.ce ++ [.ow d] }
  | .pv d false => .ok () { s with sl := s.sl.set i (.va d) }
  | .pc k => .ok () { s with sl := s.sl.set i (.ce k) }
  | .pb d => .ok () { s with sl := s.sl.set i (.bo d) }
def putAt (o : P) (i v : D) (s : St) : R Unit :=
  match o with
  | .pc k => match s.ce[k]? with
    | some (.ow x) => match setD x i v with
      | some y => .ok () { s with ce := s.ce.set k (.ow y) }
      | none => .no
    | _ => .no
  | _ => .no
def doMut (m : Mt) (o : P) (ds : List D) (s : St) : R P :=
  match o with
  | .pc k => match s.ce[k]? with
    | some (.ow x) => match mutM m x ds with
      | some (y, r) => .ok (.pv r false) { s with ce := s.ce.set k (.ow y) }
      | none => .no
    | _ => .no
  | _ => .no
def isBl : D → Option Bool
  | .bl b => some b
  | _ => none
def isI : D → Option Int
  | .int b => some b
  | _ => none
def recvOk : Mt → D → Bool
  | .bitlen, .int _ => true
  | .bitlen, _ => false
  | _, .lst _ => true
  | _, _ => false
def wfuel : Nat := 1000000

mutual
def ev (C : Cl) : E → St → R P
  | .lit d, s => .ok (.pv d false) s
  | .loc i, s => match s.sl[i]? with
    | some (.va d) => .ok (.pv d false) s
    | some (.bo d) => .ok (.pb d) s
    | some (.ce k) => .ok (.pc k) s
    | _ => .no
  | .gl n, s => match C.gl n with
    | some d => .ok (.pb d) s
    | none => .no
  | .bin o a b, s => (ev C a s).bind fun p s => (ev C b s).bind fun q s => R.of (op2 (binD o) s p q) s
  | .neg a, s => (ev C a s).bind fun p s => R.of (op1 (fun x => (isI x).map fun i => (.int (-i), false)) s p) s
  | .cmp o a b, s => (ev C a s).bind fun p s => (ev C b s).bind fun q s => R.of ((cmp2 o s p q).map fun b => .pv (.bl b) false) s
  | .chn o o' a b c, s => (ev C a s).bind fun p s => (ev C b s).bind fun q s => (R.of (cmp2 o s p q) s).bind fun k s =>
      if k then (ev C c s).bind fun r s => R.of ((cmp2 o' s q r).map fun b => .pv (.bl b) false) s else .ok (.pv (.bl false) false) s
  | .and a b, s => (ev C a s).bind fun p s => (R.of ((deref s p).bind isBl) s).bind fun k s => if k then ev C b s else .ok (.pv (.bl false) false) s
  | .or a b, s => (ev C a s).bind fun p s => (R.of ((deref s p).bind isBl) s).bind fun k s => if k then .ok (.pv (.bl true) false) s else ev C b s
  | .not a, s => (ev C a s).bind fun p s => R.of (((deref s p).bind isBl).map fun k => .pv (.bl (!k)) false) s
  | .ife t a b, s => (evT C t s).bind fun k s => if k then ev C a s else ev C b s
  | .tup es, s => (evs C es s).bind fun ps s => (keeps ps s).bind fun ds s => if ds.length ≤ lim then .ok (.pv (.tup ds) false) s else .no
  | .lst es, s => (evs C es s).bind fun ps s => (keeps ps s).bind fun ds s => if ds.length ≤ lim then .ok (.pv (.lst ds) true) s else .no
  | .dnw, s => .ok (.pv (.dct [] []) true) s
  | .idx a b, s => (ev C a s).bind fun p s => (ev C b s).bind fun q s => R.of (op2 (fun x y => (idxD x y).map fun d => (d, false)) s p q) s
  | .slc a lo hi, s => (ev C a s).bind fun p s => (evo C lo s).bind fun l s => (evo C hi s).bind fun h s => R.of (op1 (fun x => slcD x l h) s p) s
  | .rev a, s => (ev C a s).bind fun p s => R.of (op1 revD s p) s
  | .bi f es, s => (evs C es s).bind fun ps s => R.of ((derefs s ps).bind fun ds => (biD f ds).map fun r => .pv r.1 r.2) s
  | .call f es, s => (evs C es s).bind fun ps s => callF C f ps s
  | .mth m o es, s => (ev C o s).bind fun p s => (R.of ((deref s p).bind fun d => if recvOk m d then some () else none) s).bind fun _ s => (evs C es s).bind fun ps s =>
      if isMut m then (keeps ps s).bind fun ds s => doMut m p ds s
      else R.of ((deref s p).bind fun x => (derefs s ps).bind fun ds => (pureM m x ds).map fun r => .pv r.1 r.2) s
  | .lc t it c e own, s => (evIt C it s).bind fun (x : List D × List (Option Nat)) s1 =>
      (noEx (lcLoop (fun d s => (asD C t d { s with sl := wipes s1.sl own }).bind fun _ s => (evTo C c s).bind fun k s => if k then (ev C e s).bind fun p s => (keep p s).bind fun y s => .ok (some y) s else .ok none s)
        x.1 s1)).bind fun ys s2 => if ys.length ≤ lim then .ok (.pv (.lst ys) true) (x.2.foldl (fun s o => letGo o s) { s2 with sl := s1.sl }) else .no
  | .dc t it c k v own, s => (evIt C it s).bind fun (x : List D × List (Option Nat)) s1 =>
      (noEx (dcLoop (fun d s => (asD C t d { s with sl := wipes s1.sl own }).bind fun _ s => (evTo C c s).bind fun b s => if b then (ev C k s).bind fun p s => (ev C v s).bind fun q s => (keep q s).bind fun z s => R.of ((deref s p).map fun y => some (y, z)) s else .ok none s)
        x.1 ([], []) s1)).bind fun kv s2 => .ok (.pv (.dct kv.1 kv.2) true) (x.2.foldl (fun s o => letGo o s) { s2 with sl := s1.sl })
  | .rg1 t a, s => (ev C a s).bind fun p s => R.of (op1 (fun x => (isI x).bind fun n => rgOf t 0 n) s p) s
  | .rg2 t a b, s => (ev C a s).bind fun p s => (ev C b s).bind fun q s => R.of (op2 (fun x y => (isI x).bind fun n => (isI y).bind fun m => rgOf t n m) s p q) s
/-- as a test -/
def evT (C : Cl) : E → St → R Bool
  | .and a b, s => (evT C a s).bind fun k s => if k then evT C b s else .ok false s
  | .or a b, s => (evT C a s).bind fun k s => if k then .ok true s else evT C b s
  | .not a, s => (evT C a s).bind fun k s => .ok (!k) s
  | .cmp o a b, s => (ev C a s).bind fun p s => (ev C b s).bind fun q s => R.of (cmp2 o s p q) s
  | .chn o o' a b c, s => (ev C a s).bind fun p s => (ev C b s).bind fun q s => (R.of (cmp2 o s p q) s).bind fun k s =>
      if k then (ev C c s).bind fun r s => R.of (cmp2 o' s q r) s else .ok false s
  | .call f es, s => (evs C es s).bind fun ps s => (callF C f ps s).bind fun p s => R.of ((deref s p).bind truthD) s
  | .bi f es, s => (evs C es s).bind fun ps s => R.of ((derefs s ps).bind fun ds => (biD f ds).bind fun r => truthD r.1) s
  | .loc i, s => match s.sl[i]? with
    | some (.va d) => R.of (truthD d) s
    | some (.bo d) => R.of (truthD d) s
    | some (.ce k) => R.of ((s.ce[k]?).bind fun c => truthD c.d) s
    | _ => .no
  | .lit d, s => R.of (truthD d) s
  | _, _ => .no
def evs (C : Cl) : Es → St → R (List P)
  | .nil, s => .ok [] s
  | .cons e r, s => (ev C e s).bind fun p s => (evs C r s).bind fun ps s => .ok (p :: ps) s
def evo (C : Cl) : Oe → St → R (Option Int)
  | .no, s => .ok none s
  | .so e, s => (ev C e s).bind fun p s => R.of (((deref s p).bind isI).map some) s
def evTo (C : Cl) : Oe → St → R Bool
  | .no, s => .ok true s
  | .so e, s => evT C e s
/-- what a loop goes through, and what it holds meanwhile -/
def evIt (C : Cl) : It → St → R (List D × List (Option Nat))
  | .e a, s => (ev C a s).bind fun p s => (R.of ((deref s p).bind itD) s).bind fun ds s => .ok (ds, [(hold p s).2]) (hold p s).1
  | .rng es, s => (evs C es s).bind fun ps s => (R.of ((derefs s ps).bind rngOf) s).bind fun ds s => .ok (ds, []) s
  | .enum a, s => (ev C a s).bind fun p s => (R.of ((deref s p).bind itD) s).bind fun ds s => .ok (enumD 0 ds, [(hold p s).2]) (hold p s).1
  | .zip a b, s => (ev C a s).bind fun p s => (ev C b s).bind fun q s => (R.of ((deref s p).bind fun d => (deref s q).bind fun e => zip2 d e) s).bind fun xy s =>
      .ok (zipD xy.1 xy.2, [(hold p s).2, (hold q (hold p s).1).2]) (hold q (hold p s).1).1
/-- a plain value to a target -/
def asD (C : Cl) : T → D → St → R Unit
  | .nm i, d, s => putNm i (.pv d false) s
  | .sub o i, d, s => (ev C o s).bind fun p s => (ev C i s).bind fun q s => (R.of (deref s q) s).bind fun k s => putAt p k d s
  | .tup ts, d, s => match d with
    | .tup ds => asDs C ts ds s
    | .lst ds => asDs C ts ds s
    | _ => .no
def asDs (C : Cl) : Ts → List D → St → R Unit
  | .nil, [], s => .ok () s
  | .cons t r, d :: ds, s => (asD C t d s).bind fun _ s => asDs C r ds s
  | _, _, _ => .no
end
/-- what an expression gave, to a target -/
def asP (C : Cl) (t : T) (p : P) (s : St) : R Unit :=
  match t with
  | .nm i => putNm i p s
  | .sub o i => (ev C o s).bind fun q s => (ev C i s).bind fun r s => (R.of (deref s r) s).bind fun k s => (keep p s).bind fun d s => putAt q k d s
  | .tup ts => (R.of (deref s p) s).bind fun d s => match d with
    | .tup ds => asDs C ts ds s
    | .lst ds => asDs C ts ds s
    | _ => .no
def asPs (C : Cl) : Ts → List P → St → R Unit
  | .nil, [], s => .ok () s
  | .cons t r, p :: ps, s => (asP C t p s).bind fun _ s => asPs C r ps s
  | _, _, _ => .no
/-- new containers get cells -/
def alloc (p : P) (s : St) : P × St :=
  match p with
  | .pv d true => (.pc s.ce.length, { s with ce := s.ce ++ [.ow d] })
  | p => (p, s)
def allocs : List P → St → List P × St
  | [], s => ([], s)
  | p :: ps, s => ((alloc p s).1 :: (allocs ps (alloc p s).2).1, (allocs ps (alloc p s).2).2)
mutual
def ex (C : Cl) : S → St → R Fl
  | .asg t e, s => (ev C e s).bind fun p s => (asP C t p s).bind fun _ s => .ok .nx s
  | .asgs ts es, s => (evs C es s).bind fun ps s => (asPs C ts (allocs ps s).1 (allocs ps s).2).bind fun _ s => .ok .nx s
  | .ex e, s => (ev C e s).bind fun _ s => .ok .nx s
  | .ret e, s => (ev C e s).bind fun p s => .ok (.rt p) s
  | .ret0, s => .ok (.rt (.pv .non false)) s
  | .ife t a b, s => (evT C t s).bind fun k s => if k then exs C a s else exs C b s
  | .whl t b, s => whLoop (evT C t) (exs C b) wfuel s
  | .fr t it b, s => (evIt C it s).bind fun (x : List D × List (Option Nat)) s =>
      (frLoop (fun d s => (asD C t d s).bind fun _ s => exs C b s) x.1 s).bind fun fl s => .ok fl (x.2.foldl (fun s o => letGo o s) s)
  | .rse c es, s => (evs C es s).bind fun ps s => (keeps ps s).bind fun ds s => .ex ⟨c, ds⟩ s
  | .brk, s => .ok .bk s
  | .cnt, s => .ok .ct s
  | .pss, s => .ok .nx s
  | .nvr, _ => .no
def exs (C : Cl) : Ss → St → R Fl
  | .nil, s => .ok .nx s
  | .cons a r, s => (ex C a s).bind fun fl s => match fl with
    | .nx => exs C r s
    | fl => .ok fl s
end
structure Fn where
  np : Nat
  nl : Nat
  mo : List Bool
  body : Ss
/-- a def's run -/
def runF (C : Cl) (F : Fn) (sl : List Slot) (ce : List Cel) (ob : List Ob) : Rf :=
  match exs C F.body ⟨sl ++ List.replicate (F.nl - F.np) .un, ce, ob⟩ with
  | .ok (.rt (.pv d f)) s => .ok d f (s.ce.take ce.length) s.ob
  | .ok (.rt (.pb d)) s => if scal d then .ok d false (s.ce.take ce.length) s.ob else .no
  | .ok (.rt (.pc k)) s => match s.ce[k]? with
    | some c => if k < ce.length then .ok c.d false ((s.ce.set k (.fz c.d)).take ce.length) s.ob else (match c with
      | .ow d => .ok d true (s.ce.take ce.length) s.ob
      | .fz d => .ok d false (s.ce.take ce.length) s.ob
      | .he _ => .no)
    | none => .no
  | .ok .nx s => .ok .non false (s.ce.take ce.length) s.ob
  | .ok _ _ => .no
  | .ex x s => .ex x (s.ce.take ce.length) s.ob
  | .no => .no
/-- the defs, by numbers; n calls deep -/
def moD (T : Nat → Option Fn) (f : Nat) : List Bool := match T f with
  | some G => G.mo
  | none => []
def fnD (T : Nat → Option Fn) (G : Nat → Option D) : Nat → Nat → List Slot → List Cel → List Ob → Rf
  | 0, _, _, _, _ => .no
  | n + 1, f, sl, ce, ob => match T f with
    | some F => if sl.length = F.np then runF ⟨fnD T G n, moD T, G⟩ F sl ce ob else .no
    | none => .no
end Pv

set_option Elab.async false
set_option linter.all false
set_option maxRecDepth 100000
namespace Pv
open PySem L2 PyProof.Rows

/-! ### what stands for what -/
def ExH (F H : Hp) : Prop := ∀ a o, F a = some o → H a = some o
theorem ExH.refl (F : Hp) : ExH F F := fun _ _ h => h
theorem ExH.trans {F G H : Hp} (a : ExH F G) (b : ExH G H) : ExH F H := fun x o h => b x o (a x o h)
theorem ExH.upd {F : Hp} {p : Addr} {o : HO} (h : F p = none) : ExH F (upd F p o) := fun a u e => by
  rw [upd_ne (ne_of_none e h)]
  exact e
theorem ExH.rd {F H : Hp} {a : Addr} {o : HO} (e : ExH F H) (h : Rd F a o) : Rd H a o := by
  rcases h with h | ⟨u, h⟩
  · exact .inl (e _ _ h)
  · exact .inr ⟨u, e _ _ h⟩
def kD : Key → D
  | .inl i => .int i
  | .inr x => .str x

mutual
inductive Rep (ρ : List Addr) (F : Hp) : V → D → Prop where
  | non : Rep ρ F .non .non
  | bl (b : Bool) : Rep ρ F (.bl b) (.bl b)
  | int (i : Int) : Rep ρ F (.int i) (.int i)
  | str (x : Str) : Rep ρ F (.str x) (.str x)
  | ty (n : String) : Rep ρ F (.ty n) (.ty n)
  | tup {a : Addr} {vs : List V} {ds : List D} : F a = some (.tup vs) → Reps ρ F vs ds → Rep ρ F (.ref a) (.tup ds)
  | con {a : Addr} {o : HO} {d : D} : isC d = true → F a = some o → RepO ρ F o d → Rep ρ F (.ref a) d
  | scr {a : Addr} {ob : Obj} {vs : List V} {ds : List D} : F a = some (.frz ob (.lst vs)) → Reps ρ F vs ds → Rep ρ F (.ref a) (.scr ds)
  | obj {a : Addr} {n : Nat} : ρ[n]? = some a → Rep ρ F (.ref a) (.obj n)
inductive Reps (ρ : List Addr) (F : Hp) : List V → List D → Prop where
  | nil : Reps ρ F [] []
  | cons {v : V} {vs : List V} {d : D} {ds : List D} : Rep ρ F v d → Reps ρ F vs ds → Reps ρ F (v :: vs) (d :: ds)
inductive RepO (ρ : List Addr) (F : Hp) : HO → D → Prop where
  | lst {vs : List V} {ds : List D} : Reps ρ F vs ds → RepO ρ F (.lst vs) (.lst ds)
  | dK {kvs : List (Key × V)} {ds : List D} : Reps ρ F (kvs.map (·.2)) ds → RepO ρ F (.dK kvs) (.dct (kvs.map fun kv => kD kv.1) ds)
  | dT {kvs : List (List Key × V)} {ds : List D} : Reps ρ F (kvs.map (·.2)) ds → RepO ρ F (.dT kvs) (.dct (kvs.map fun kv => .tup (kv.1.map kD)) ds)
end

section
variable {ρ ρ' : List Addr} {F F' : Hp}
def PreL (ρ ρ' : List Addr) : Prop := ∀ (n : Nat) (a : Addr), ρ[n]? = some a → ρ'[n]? = some a
theorem PreL.refl (ρ : List Addr) : PreL ρ ρ := fun _ _ h => h
theorem PreL.trans {a b c : List Addr} (h : PreL a b) (k : PreL b c) : PreL a c := fun n x e => k n x (h n x e)
theorem PreL.app (a b : List Addr) : PreL a (a ++ b) := fun n x e => by
  rw [List.getElem?_append_left (List.getElem?_eq_some_iff.mp e).1]
  exact e
theorem PreL.mem {a b : List Addr} (h : PreL a b) {x : Addr} (m : x ∈ a) : x ∈ b := by
  obtain ⟨n, e⟩ := List.getElem?_of_mem m
  exact List.mem_of_getElem? (h n x e)
mutual
theorem Rep.mono (hp : PreL ρ ρ') (hF : ExH F F') : ∀ {v : V} {d : D}, Rep ρ F v d → Rep ρ' F' v d
  | _, _, .non => .non
  | _, _, .bl b => .bl b
  | _, _, .int i => .int i
  | _, _, .str x => .str x
  | _, _, .ty n => .ty n
  | _, _, .tup h r => .tup (hF _ _ h) (Reps.mono hp hF r)
  | _, _, .con c h r => .con c (hF _ _ h) (RepO.mono hp hF r)
  | _, _, .scr h r => .scr (hF _ _ h) (Reps.mono hp hF r)
  | _, _, .obj h => .obj (hp _ _ h)
theorem Reps.mono (hp : PreL ρ ρ') (hF : ExH F F') : ∀ {vs : List V} {ds : List D}, Reps ρ F vs ds → Reps ρ' F' vs ds
  | _, _, .nil => .nil
  | _, _, .cons h r => .cons (Rep.mono hp hF h) (Reps.mono hp hF r)
theorem RepO.mono (hp : PreL ρ ρ') (hF : ExH F F') : ∀ {o : HO} {d : D}, RepO ρ F o d → RepO ρ' F' o d
  | _, _, .lst r => .lst (Reps.mono hp hF r)
  | _, _, .dK r => .dK (Reps.mono hp hF r)
  | _, _, .dT r => .dT (Reps.mono hp hF r)
end
theorem Reps.length : ∀ {vs : List V} {ds : List D}, Reps ρ F vs ds → vs.length = ds.length
  | _, _, .nil => rfl
  | _, _, .cons _ r => by rw [List.length_cons, List.length_cons, Reps.length r]
theorem Reps.get : ∀ {vs : List V} {ds : List D} {i : Nat} {d : D}, Reps ρ F vs ds → ds[i]? = some d → ∃ v, vs[i]? = some v ∧ Rep ρ F v d
  | _, _, _, _, .nil, e => by simp at e
  | _, _, 0, _, .cons h _, e => by
    simp at e
    subst e
    exact ⟨_, rfl, h⟩
  | _, _, i + 1, _, .cons _ r, e => by
    obtain ⟨v, h1, h2⟩ := Reps.get (i := i) r (by simpa using e)
    exact ⟨v, by simpa using h1, h2⟩
theorem Reps.append : ∀ {vs ws : List V} {ds es : List D}, Reps ρ F vs ds → Reps ρ F ws es → Reps ρ F (vs ++ ws) (ds ++ es)
  | _, _, _, _, .nil, s => s
  | _, _, _, _, .cons h r, s => .cons h (Reps.append r s)
theorem Reps.take (n : Nat) : ∀ {vs : List V} {ds : List D}, Reps ρ F vs ds → Reps ρ F (vs.take n) (ds.take n) := by
  induction n with
  | zero => intro vs ds _; exact .nil
  | succ n ih =>
    intro vs ds h
    cases h with
    | nil => exact .nil
    | cons h r => exact .cons h (ih r)
theorem Reps.drop (n : Nat) : ∀ {vs : List V} {ds : List D}, Reps ρ F vs ds → Reps ρ F (vs.drop n) (ds.drop n) := by
  induction n with
  | zero => intro vs ds h; exact h
  | succ n ih =>
    intro vs ds h
    cases h with
    | nil => exact .nil
    | cons h r => exact ih r
theorem Reps.set {v : V} {d : D} (h : Rep ρ F v d) (n : Nat) : ∀ {vs : List V} {ds : List D}, Reps ρ F vs ds → Reps ρ F (vs.set n v) (ds.set n d) := by
  induction n with
  | zero =>
    intro vs ds r
    cases r with
    | nil => exact .nil
    | cons h' r => exact .cons h r
  | succ n ih =>
    intro vs ds r
    cases r with
    | nil => exact .nil
    | cons h' r => exact .cons h' (ih r)
theorem Reps.reverse {vs : List V} {ds : List D} (h : Reps ρ F vs ds) : Reps ρ F vs.reverse ds.reverse := by
  induction vs generalizing ds with
  | nil =>
    cases h
    exact .nil
  | cons v vs ih =>
    cases h with
    | cons h r =>
      rw [List.reverse_cons, List.reverse_cons]
      exact Reps.append (ih r) (.cons h .nil)
theorem Reps.rep {v : V} {d : D} (h : Rep ρ F v d) : ∀ n, Reps ρ F (List.replicate n v) (List.replicate n d)
  | 0 => .nil
  | n + 1 => by
    rw [List.replicate_succ, List.replicate_succ]
    exact .cons h (Reps.rep h n)
theorem Rep.scal {v : V} {d : D} (h : Rep ρ F v d) (s : scal d = true) : Rep ρ' F' v d := by
  cases d with
  | non =>
    cases h with
    | non => exact .non
    | con c _ _ => exact nomatch c
  | bl b =>
    cases h with
    | bl => exact .bl b
    | con c _ _ => exact nomatch c
  | int i =>
    cases h with
    | int => exact .int i
    | con c _ _ => exact nomatch c
  | str x =>
    cases h with
    | str => exact .str x
    | con c _ _ => exact nomatch c
  | ty n =>
    cases h with
    | ty => exact .ty n
    | con c _ _ => exact nomatch c
  | _ => exact nomatch s
end

/-- what we know of the machine's side: the objects' places, what never changes, the cells' places -/
structure Gh where
  ρ : List Addr
  F : Hp
  cp : List Addr

/-- a value that may be looked at now -/
inductive Pk (K : PySem.W.Frag) (g : Gh) (H : Hp) : V → D → Prop where
  | rep {v : V} {d : D} : Rep g.ρ g.F v d → Pk K g H v d
  | con {a : Addr} {o : HO} {d : D} : isC d = true → H a = some o → RepO g.ρ g.F o d → Pk K g H (.ref a) d
  | wr {a : Addr} {vs : List V} {ds : List D} : SqT K H a vs → (∀ d ∈ ds, scal d = true) → Reps g.ρ g.F vs ds → Pk K g H (.ref a) (.kt ds)
  | ws {a : Addr} {vs : List V} {ds : List D} : SqL K H a vs → (∀ d ∈ ds, scal d = true) → Reps g.ρ g.F vs ds → Pk K g H (.ref a) (.scr ds)

/-- a lent value: it does not change while it is lent -/
inductive Bo (K : PySem.W.Frag) (g : Gh) (H : Hp) : V → D → Prop where
  | rep {v : V} {d : D} : Rep g.ρ g.F v d → Bo K g H v d
  | con {a : Addr} {o : HO} {d : D} : isC d = true → H a = some o → RepO g.ρ g.F o d → g.F a = none → a ∉ g.cp → a ∉ g.ρ → Bo K g H (.ref a) d
  | wr {a : Addr} {vs : List V} {ds : List D} : (∀ H', SqT K H' a vs) → (∀ d ∈ ds, scal d = true) → Reps g.ρ g.F vs ds → Bo K g H (.ref a) (.kt ds)
  | ws {a : Addr} {vs : List V} {ds : List D} : (∀ H', SqL K H' a vs) → (∀ d ∈ ds, scal d = true) → Reps g.ρ g.F vs ds → Bo K g H (.ref a) (.scr ds)

/-- a slot -/
def SlotOk (K : PySem.W.Frag) (g : Gh) (H : Hp) : Slot → Option (Option V) → Prop
  | .un, o => ∃ x, o = some x
  | .va d, o => ∃ v, o = some (some v) ∧ Rep g.ρ g.F v d
  | .bo d, o => ∃ v, o = some (some v) ∧ Bo K g H v d
  | .ce k, o => ∃ a, o = some (some (.ref a)) ∧ g.cp[k]? = some a
def CelOk (g : Gh) (H : Hp) (a : Addr) : Cel → Prop
  | .ow d => isC d = true ∧ g.F a = none ∧ ∃ o, H a = some o ∧ Mut (some o) ∧ RepO g.ρ g.F o d
  | .he d => isC d = true ∧ g.F a = none ∧ ∃ o, H a = some o ∧ Mut (some o) ∧ RepO g.ρ g.F o d
  | .fz d => Rep g.ρ g.F (.ref a) d

/-- the cells -/
structure SimC (g : Gh) (ce : List Cel) (ob : List Ob) (H : Hp) : Prop where
  ex : ExH g.F H
  cn : g.cp.length = ce.length
  cel : ∀ (k : Nat) (c : Cel) (a : Addr), ce[k]? = some c → g.cp[k]? = some a → CelOk g H a c
  cnd : g.cp.Nodup
  ρF : ∀ a ∈ g.ρ, g.F a = none
  ρc : ∀ a ∈ g.ρ, a ∉ g.cp
  ob : ob = [] ∧ g.ρ = []
structure Sim (K : PySem.W.Frag) (g : Gh) (s : St) (σ : L2.St) (H : Hp) : Prop where
  c : SimC g s.ce s.ob H
  len : s.sl.length = σ.length
  slot : ∀ (i : Nat) (x : Slot), s.sl[i]? = some x → SlotOk K g H x σ[i]?

/-- how the machine's side may go on -/
structure Stp (g : Gh) (H : Hp) (g' : Gh) (H' : Hp) : Prop where
  ρ : PreL g.ρ g'.ρ
  F : ExH g.F g'.F
  cp : PreL g.cp g'.cp
  fr : ∀ a o, H a = some o → a ∉ g.cp → a ∉ g.ρ → H' a = some o
  th : ∀ a o, H a = some o → ∃ o', H' a = some o'
  nF : ∀ a o, g'.F a = some o → g.F a = some o ∨ H a = none ∨ a ∈ g.cp
  nc : ∀ a ∈ g'.cp, a ∈ g.cp ∨ H a = none
  nρ : ∀ a ∈ g'.ρ, a ∈ g.ρ ∨ H a = none
theorem Stp.refl (g : Gh) (H : Hp) : Stp g H g H := ⟨.refl _, .refl _, .refl _, fun _ _ h _ _ => h, fun _ o h => ⟨o, h⟩, fun _ _ h => .inl h, fun _ h => .inl h, fun _ h => .inl h⟩
theorem Stp.trans {g g1 g2 : Gh} {H H1 H2 : Hp} (a : Stp g H g1 H1) (b : Stp g1 H1 g2 H2) : Stp g H g2 H2 where
  ρ := a.ρ.trans b.ρ
  F := a.F.trans b.F
  cp := a.cp.trans b.cp
  fr := fun x o h hc hρ => by
    refine b.fr x o (a.fr x o h hc hρ) (fun m => ?_) fun m => ?_
    · rcases a.nc x m with z | z
      · exact hc z
      · rw [h] at z; cases z
    · rcases a.nρ x m with z | z
      · exact hρ z
      · rw [h] at z; cases z
  th := fun x o h => let ⟨o1, h1⟩ := a.th x o h; b.th x o1 h1
  nF := fun x o h => by
    rcases b.nF x o h with z | z | z
    · exact a.nF x o z
    · refine .inr (.inl ?_)
      cases q : H x with
      | none => rfl
      | some u =>
        obtain ⟨o1, h1⟩ := a.th x u q
        rw [z] at h1; cases h1
    · rcases a.nc x z with z | z
      · exact .inr (.inr z)
      · exact .inr (.inl z)
  nc := fun x h => by
    rcases b.nc x h with z | z
    · exact a.nc x z
    · refine .inr ?_
      cases q : H x with
      | none => rfl
      | some u =>
        obtain ⟨o1, h1⟩ := a.th x u q
        rw [z] at h1; cases h1
  nρ := fun x h => by
    rcases b.nρ x h with z | z
    · exact a.nρ x z
    · refine .inr ?_
      cases q : H x with
      | none => rfl
      | some u =>
        obtain ⟨o1, h1⟩ := a.th x u q
        rw [z] at h1; cases h1

/-- what an expression's outcome stands for -/
inductive OpR' (K : PySem.W.Frag) (g : Gh) (H : Hp) : V → P → Prop where
  | va {v : V} {d : D} : Rep g.ρ g.F v d → OpR' K g H v (.pv d false)
  | fr {a : Addr} {o : HO} {d : D} : isC d = true → H a = some o → Mut (some o) → RepO g.ρ g.F o d → g.F a = none → a ∉ g.cp → a ∉ g.ρ → OpR' K g H (.ref a) (.pv d true)
  | ce {a : Addr} {k : Nat} : g.cp[k]? = some a → OpR' K g H (.ref a) (.pc k)
  | bo {v : V} {d : D} : Bo K g H v d → OpR' K g H v (.pb d)
section
variable {K : PySem.W.Frag} {g g' : Gh} {H H' : Hp} {v : V} {d : D} {s : St} {σ : L2.St}
theorem Stp.keepF (t : Stp g H g' H') {a : Addr} {o : HO} (h : H a = some o) (hF : g.F a = none) (hc : a ∉ g.cp) (hρ : a ∉ g.ρ) : H' a = some o ∧ g'.F a = none ∧ a ∉ g'.cp ∧ a ∉ g'.ρ := by
  refine ⟨t.fr a o h hc hρ, ?_, fun m => ?_, fun m => ?_⟩
  · cases q : g'.F a with
    | none => rfl
    | some u =>
      rcases t.nF a u q with z | z | z
      · rw [hF] at z; cases z
      · rw [h] at z; cases z
      · exact absurd z hc
  · rcases t.nc a m with z | z
    · exact hc z
    · rw [h] at z; cases z
  · rcases t.nρ a m with z | z
    · exact hρ z
    · rw [h] at z; cases z
theorem Bo.mono (t : Stp g H g' H') (b : Bo K g H v d) : Bo K g' H' v d := by
  cases b with
  | rep r => exact .rep (r.mono t.ρ t.F)
  | con c h r hF hc hρ =>
    obtain ⟨k1, k2, k3, k4⟩ := t.keepF h hF hc hρ
    exact .con c k1 (r.mono t.ρ t.F) k2 k3 k4
  | wr h hs r => exact .wr h hs (r.mono t.ρ t.F)
  | ws h hs r => exact .ws h hs (r.mono t.ρ t.F)
theorem OpR'.mono {p : P} (t : Stp g H g' H') (b : OpR' K g H v p) : OpR' K g' H' v p := by
  cases b with
  | va r => exact .va (r.mono t.ρ t.F)
  | fr c h m r hF hc hρ =>
    obtain ⟨k1, k2, k3, k4⟩ := t.keepF h hF hc hρ
    exact .fr c k1 m (r.mono t.ρ t.F) k2 k3 k4
  | ce h => exact .ce (t.cp _ _ h)
  | bo b => exact .bo (b.mono t)
/-- it may be looked at -/
theorem OpR'.pk {p : P} (m : Sim K g s σ H) (b : OpR' K g H v p) (e : deref s p = some d) : Pk K g H v d := by
  cases b with
  | va r =>
    cases e
    exact .rep r
  | fr c h _ r _ _ _ =>
    cases e
    exact .con c h r
  | @ce a k h =>
    have e' : (s.ce[k]?).map Cel.d = some d := e
    cases hc : s.ce[k]? with
    | none => rw [hc] at e'; cases e'
    | some c =>
      rw [hc] at e'
      have ed : c.d = d := Option.some.inj e'
      have w := m.c.cel k c a hc h
      cases c with
      | ow x =>
        obtain ⟨w1, _, o, w2, _, w3⟩ := w
        cases ed
        exact .con w1 w2 w3
      | he x =>
        obtain ⟨w1, _, o, w2, _, w3⟩ := w
        cases ed
        exact .con w1 w2 w3
      | fz x =>
        cases ed
        exact .rep w
  | bo b =>
    cases e
    cases b with
    | rep r => exact .rep r
    | con c h r _ _ _ => exact .con c h r
    | wr h hs r => exact .wr (h H) hs r
    | ws h hs r => exact .ws (h H) hs r
end
/-- a new container is nobody's -/
def FrI (H : Hp) (v : V) : P → Prop
  | .pv _ true => ∀ a, v = .ref a → H a = none
  | _ => True
end Pv

set_option Elab.async false
set_option linter.all false
set_option maxRecDepth 100000
namespace Pv
open PySem L2 PyProof.Rows

structure Wf (g : Gh) (H : Hp) : Prop where
  ex : ExH g.F H
  cp : ∀ a ∈ g.cp, ∃ o, H a = some o
  ρ : ∀ a ∈ g.ρ, ∃ o, H a = some o
/-- only growing -/
structure Gro (g : Gh) (H : Hp) (g' : Gh) (H' : Hp) : Prop where
  ρ : g'.ρ = g.ρ
  cp : g'.cp = g.cp
  F : ExH g.F g'.F
  hh : ExH H H'
  ex : ExH g'.F H'
  nF : ∀ a o, g'.F a = some o → g.F a = some o ∨ H a = none
section
variable {K : PySem.W.Frag} {g g' g1 : Gh} {H H' H1 : Hp} {s : St} {σ : L2.St} {v : V} {d : D}
theorem Gro.refl (w : Wf g H) : Gro g H g H := ⟨rfl, rfl, .refl _, .refl _, w.ex, fun _ _ h => .inl h⟩
theorem Gro.stp (t : Gro g H g' H') : Stp g H g' H' where
  ρ := by rw [t.ρ]; exact .refl _
  F := t.F
  cp := by rw [t.cp]; exact .refl _
  fr := fun a o h _ _ => t.hh a o h
  th := fun a o h => ⟨o, t.hh a o h⟩
  nF := fun a o h => (t.nF a o h).imp id .inl
  nc := fun a h => by rw [t.cp] at h; exact .inl h
  nρ := fun a h => by rw [t.ρ] at h; exact .inl h
theorem Gro.trans (t : Gro g H g1 H1) (u : Gro g1 H1 g' H') : Gro g H g' H' where
  ρ := u.ρ.trans t.ρ
  cp := u.cp.trans t.cp
  F := t.F.trans u.F
  hh := t.hh.trans u.hh
  ex := u.ex
  nF := fun a o h => by
    rcases u.nF a o h with z | z
    · exact t.nF a o z
    · refine .inr ?_
      cases q : H a with
      | none => rfl
      | some x => rw [t.hh a x q] at z; cases z
theorem SimC.wf {ce : List Cel} {ob : List Ob} (m : SimC g ce ob H) : Wf g H where
  ex := m.ex
  cp := fun a h => by
    obtain ⟨k, hk⟩ := List.getElem?_of_mem h
    have hlt : k < ce.length := by rw [← m.cn]; exact (List.getElem?_eq_some_iff.mp hk).1
    have w := m.cel k (ce[k]) a (by simp [hlt]) hk
    cases hc : ce[k] with
    | ow d =>
      rw [hc] at w
      obtain ⟨_, _, o, h, _⟩ := w
      exact ⟨o, h⟩
    | he d =>
      rw [hc] at w
      obtain ⟨_, _, o, h, _⟩ := w
      exact ⟨o, h⟩
    | fz d =>
      rw [hc] at w
      have w' : Rep g.ρ g.F (.ref a) d := w
      cases w' with
      | tup h _ => exact ⟨_, m.ex _ _ h⟩
      | con _ h _ => exact ⟨_, m.ex _ _ h⟩
      | scr h _ => exact ⟨_, m.ex _ _ h⟩
      | obj h =>
        rw [m.ob.2] at h
        cases h
  ρ := fun a h => by
    rw [m.ob.2] at h
    cases h
theorem Sim.wf (m : Sim K g s σ H) : Wf g H := m.c.wf
theorem Gro.wf (w : Wf g H) (t : Gro g H g' H') : Wf g' H' where
  ex := t.ex
  cp := fun a h => by rw [t.cp] at h; obtain ⟨o, e⟩ := w.cp a h; exact ⟨o, t.hh a o e⟩
  ρ := fun a h => by rw [t.ρ] at h; obtain ⟨o, e⟩ := w.ρ a h; exact ⟨o, t.hh a o e⟩
theorem Gro.celF (w : Wf g H) (t : Gro g H g' H') {a : Addr} (ha : a ∈ g.cp) (h : g.F a = none) : g'.F a = none := by
  cases q : g'.F a with
  | none => rfl
  | some o =>
    rcases t.nF a o q with z | z
    · rw [h] at z; cases z
    · obtain ⟨o', e⟩ := w.cp a ha
      rw [e] at z; cases z
theorem SimC.gro {ce : List Cel} {ob : List Ob} (m : SimC g ce ob H) (t : Gro g H g' H') : SimC g' ce ob H' where
  ex := t.ex
  cn := by rw [t.cp]; exact m.cn
  cel := fun k c a h1 h2 => by
    rw [t.cp] at h2
    have w := m.cel k c a h1 h2
    have ha : a ∈ g.cp := List.mem_of_getElem? h2
    cases c with
    | ow d =>
      obtain ⟨w1, w2, o, w3, w4, w5⟩ := w
      exact ⟨w1, t.celF m.wf ha w2, o, t.hh _ _ w3, w4, w5.mono (by rw [t.ρ]; exact .refl _) t.F⟩
    | he d =>
      obtain ⟨w1, w2, o, w3, w4, w5⟩ := w
      exact ⟨w1, t.celF m.wf ha w2, o, t.hh _ _ w3, w4, w5.mono (by rw [t.ρ]; exact .refl _) t.F⟩
    | fz d => exact Rep.mono (by rw [t.ρ]; exact .refl _) t.F w
  cnd := by rw [t.cp]; exact m.cnd
  ρF := fun a h => by rw [t.ρ, m.ob.2] at h; cases h
  ρc := fun a h => by rw [t.ρ, m.ob.2] at h; cases h
  ob := ⟨m.ob.1, by rw [t.ρ]; exact m.ob.2⟩
theorem SlotOk.mono {x : Slot} {o : Option (Option V)} (t : Stp g H g' H') (w : SlotOk K g H x o) : SlotOk K g' H' x o := by
  cases x with
  | un => exact w
  | va d =>
    obtain ⟨v, e, r⟩ := w
    exact ⟨v, e, r.mono t.ρ t.F⟩
  | bo d =>
    obtain ⟨v, e, r⟩ := w
    exact ⟨v, e, r.mono t⟩
  | ce k =>
    obtain ⟨a, e, r⟩ := w
    exact ⟨a, e, t.cp _ _ r⟩
theorem Sim.gro (m : Sim K g s σ H) (t : Gro g H g' H') : Sim K g' s σ H' where
  c := m.c.gro t
  len := m.len
  slot := fun i x h => (m.slot i x h).mono t.stp

/-! new tuples, new containers -/
theorem gro_tup {p : Addr} {vs : List V} (w : Wf g H) (hp : H p = none) : Gro g H { g with F := upd g.F p (.tup vs) } (upd H p (.tup vs)) := by
  have hF : g.F p = none := by
    cases q : g.F p with
    | none => rfl
    | some o => rw [w.ex _ _ q] at hp; cases hp
  refine ⟨rfl, rfl, ExH.upd hF, ExH.upd hp, fun a o h => ?_, fun a o h => ?_⟩
  · by_cases e : a = p
    · subst e
      have h' : upd g.F a (.tup vs) a = some o := h
      rw [upd_same] at h' ⊢
      exact h'
    · have h' : upd g.F p (.tup vs) a = some o := h
      rw [upd_ne e] at h' ⊢
      exact w.ex _ _ h'
  · by_cases e : a = p
    · subst e
      exact .inr hp
    · have h' : upd g.F p (.tup vs) a = some o := h
      rw [upd_ne e] at h'
      exact .inl h'
theorem rep_tup {p : Addr} {vs : List V} {ds : List D} (w : Wf g H) (hp : H p = none) (r : Reps g.ρ g.F vs ds) : Rep g.ρ (upd g.F p (.tup vs)) (.ref p) (.tup ds) :=
  .tup upd_same (r.mono (.refl _) (gro_tup (vs := vs) w hp).F)
theorem gro_new {p : Addr} {o : HO} (w : Wf g H) (hp : H p = none) : Gro g H g (upd H p o) :=
  ⟨rfl, rfl, .refl _, ExH.upd hp, w.ex.trans (ExH.upd hp), fun _ _ h => .inl h⟩
theorem op_new {p : Addr} {o : HO} (w : Wf g H) (hp : H p = none) (c : isC d = true) (mu : Mut (some o)) (r : RepO g.ρ g.F o d) : OpR' K g (upd H p o) (.ref p) (.pv d true) := by
  refine .fr c upd_same mu r ?_ (fun m => ?_) fun m => ?_
  · cases q : g.F p with
    | none => rfl
    | some u => rw [w.ex _ _ q] at hp; cases hp
  · obtain ⟨u, e⟩ := w.cp p m
    rw [e] at hp; cases hp
  · obtain ⟨u, e⟩ := w.ρ p m
    rw [e] at hp; cases hp
theorem fri {p : Addr} (hp : H p = none) : FrI H (.ref p) (.pv d true) := fun a e => by cases e; exact hp

/-! what a value looks like -/
theorem Rep.inv_int {ρ F} {i : Int} (h : Rep ρ F v (.int i)) : v = .int i := by
  cases h with
  | int => rfl
  | con c _ _ => exact nomatch c
theorem Pk.int {i : Int} (h : Pk K g H v (.int i)) : v = .int i := by
  cases h with
  | rep h => exact h.inv_int
  | con c _ _ => exact nomatch c
theorem Pk.bl {b : Bool} (h : Pk K g H v (.bl b)) : v = .bl b := by
  cases h with
  | rep h =>
    cases h with
    | bl => rfl
    | con c _ _ => exact nomatch c
  | con c _ _ => exact nomatch c
theorem Pk.non (h : Pk K g H v .non) : v = .non := by
  cases h with
  | rep h =>
    cases h with
    | non => rfl
    | con c _ _ => exact nomatch c
  | con c _ _ => exact nomatch c
theorem Pk.str {x : Str} (h : Pk K g H v (.str x)) : v = .str x := by
  cases h with
  | rep h =>
    cases h with
    | str => rfl
    | con c _ _ => exact nomatch c
  | con c _ _ => exact nomatch c
theorem Pk.ty {x : String} (h : Pk K g H v (.ty x)) : v = .ty x := by
  cases h with
  | rep h =>
    cases h with
    | ty => rfl
    | con c _ _ => exact nomatch c
  | con c _ _ => exact nomatch c
theorem Pk.tup {ds : List D} (w : Wf g H) (h : Pk K g H v (.tup ds)) : ∃ a vs, v = .ref a ∧ SqT K H a vs ∧ Reps g.ρ g.F vs ds := by
  cases h with
  | rep h =>
    cases h with
    | tup h r => exact ⟨_, _, rfl, .inl (.inl (w.ex _ _ h)), r⟩
    | con c _ _ => exact nomatch c
  | con c _ _ => exact nomatch c
theorem Pk.rtup {ds : List D} (h : Pk K g H v (.tup ds)) : Rep g.ρ g.F v (.tup ds) := by
  cases h with
  | rep h => exact h
  | con c _ _ => exact nomatch c
theorem Pk.kt {ds : List D} (w : Wf g H) (h : Pk K g H v (.kt ds)) : ∃ a vs, v = .ref a ∧ SqT K H a vs ∧ Reps g.ρ g.F vs ds := by
  cases h with
  | rep h =>
    cases h with
    | con c _ _ => exact nomatch c
  | con c _ _ => exact nomatch c
  | wr h hs r => exact ⟨_, _, rfl, h, r⟩
theorem Pk.scr {ds : List D} (w : Wf g H) (h : Pk K g H v (.scr ds)) : ∃ a vs, v = .ref a ∧ SqL K H a vs ∧ Reps g.ρ g.F vs ds := by
  cases h with
  | rep h =>
    cases h with
    | scr h r => exact ⟨_, _, rfl, .inl (.inr ⟨_, w.ex _ _ h⟩), r⟩
    | con c _ _ => exact nomatch c
  | con c _ _ => exact nomatch c
  | ws h hs r => exact ⟨_, _, rfl, h, r⟩
theorem Pk.con' (w : Wf g H) (c : isC d = true) (h : Pk K g H v d) : ∃ a o, v = .ref a ∧ H a = some o ∧ RepO g.ρ g.F o d := by
  cases h with
  | rep h =>
    cases h with
    | con c h r => exact ⟨_, _, rfl, w.ex _ _ h, r⟩
    | tup _ _ => exact nomatch c
    | scr _ _ => exact nomatch c
    | _ => exact nomatch c
  | con c h r => exact ⟨_, _, rfl, h, r⟩
  | wr _ _ _ => exact nomatch c
  | ws _ _ _ => exact nomatch c
theorem Pk.lst {ds : List D} (w : Wf g H) (h : Pk K g H v (.lst ds)) : ∃ a vs, v = .ref a ∧ H a = some (.lst vs) ∧ Reps g.ρ g.F vs ds := by
  obtain ⟨a, o, e, h1, r⟩ := h.con' w rfl
  cases r with
  | lst r => exact ⟨a, _, e, h1, r⟩
theorem Reps.ints {ρ F} : ∀ {vs : List V} {ns : List Int}, Reps ρ F vs (ns.map D.int) → vs = ns.map V.int
  | _, [], .nil => rfl
  | _, n :: ns, .cons h r => by rw [h.inv_int, Reps.ints (ns := ns) r]; rfl
end
end Pv

set_option Elab.async false
set_option linter.all false
set_option maxRecDepth 100000
namespace Pv
open PySem L2 PyProof.Rows

/-! ### data, read off -/
mutual
def toP : D → PyData
  | .non => .none
  | .bl b => .bool b
  | .int i => .int i
  | .str x => .str x
  | .tup xs => .tuple (toPs xs)
  | .lst xs => .list (toPs xs)
  | _ => .none
def toPs : List D → List PyData
  | [] => []
  | x :: xs => toP x :: toPs xs
end
theorem toPs_map : ∀ xs : List D, toPs xs = xs.map toP
  | [] => rfl
  | x :: xs => by rw [toPs, toPs_map xs]; rfl
mutual
theorem eqv_toP : ∀ (x y : D) (n m : Nat), flatD n x = true → flatD m y = true → PyData.eqv (toP x) (toP y) = eqD x y
  | .non, y, n, m, _, h => by cases y <;> first | rfl | (cases m <;> exact nomatch h)
  | .bl b, y, n, m, _, h => by cases y <;> first | rfl | (cases m <;> exact nomatch h)
  | .int b, y, n, m, _, h => by cases y <;> first | rfl | (cases m <;> exact nomatch h)
  | .str b, y, n, m, _, h => by cases y <;> first | rfl | (cases m <;> exact nomatch h)
  | .tup xs, .tup ys, n + 1, m + 1, h, k => by
    show PyData.eqvAll (toPs xs) (toPs ys) = eqDs xs ys
    exact eqvs_toP xs ys n m h k
  | .lst xs, .lst ys, n + 1, m + 1, h, k => by
    show PyData.eqvAll (toPs xs) (toPs ys) = eqDs xs ys
    exact eqvs_toP xs ys n m h k
  | .tup xs, .lst ys, _, _, _, _ => rfl
  | .lst xs, .tup ys, _, _, _, _ => rfl
  | .tup xs, .non, _, _, _, _ => rfl
  | .tup xs, .bl _, _, _, _, _ => rfl
  | .tup xs, .int _, _, _, _, _ => rfl
  | .tup xs, .str _, _, _, _, _ => rfl
  | .lst xs, .non, _, _, _, _ => rfl
  | .lst xs, .bl _, _, _, _, _ => rfl
  | .lst xs, .int _, _, _, _, _ => rfl
  | .lst xs, .str _, _, _, _, _ => rfl
  | .tup xs, .dct _ _, _, m, _, h => by cases m <;> exact nomatch h
  | .tup xs, .st _, _, m, _, h => by cases m <;> exact nomatch h
  | .tup xs, .ty _, _, m, _, h => by cases m <;> exact nomatch h
  | .tup xs, .fn _, _, m, _, h => by cases m <;> exact nomatch h
  | .tup xs, .cls _, _, m, _, h => by cases m <;> exact nomatch h
  | .tup xs, .obj _, _, m, _, h => by cases m <;> exact nomatch h
  | .tup xs, .scr _, _, m, _, h => by cases m <;> exact nomatch h
  | .tup xs, .kt _, _, m, _, h => by cases m <;> exact nomatch h
  | .lst xs, .dct _ _, _, m, _, h => by cases m <;> exact nomatch h
  | .lst xs, .st _, _, m, _, h => by cases m <;> exact nomatch h
  | .lst xs, .ty _, _, m, _, h => by cases m <;> exact nomatch h
  | .lst xs, .fn _, _, m, _, h => by cases m <;> exact nomatch h
  | .lst xs, .cls _, _, m, _, h => by cases m <;> exact nomatch h
  | .lst xs, .obj _, _, m, _, h => by cases m <;> exact nomatch h
  | .lst xs, .scr _, _, m, _, h => by cases m <;> exact nomatch h
  | .lst xs, .kt _, _, m, _, h => by cases m <;> exact nomatch h
  | .dct _ _, _, n, _, h, _ => by cases n <;> exact nomatch h
  | .st _, _, n, _, h, _ => by cases n <;> exact nomatch h
  | .ty _, _, n, _, h, _ => by cases n <;> exact nomatch h
  | .fn _, _, n, _, h, _ => by cases n <;> exact nomatch h
  | .cls _, _, n, _, h, _ => by cases n <;> exact nomatch h
  | .obj _, _, n, _, h, _ => by cases n <;> exact nomatch h
  | .scr _, _, n, _, h, _ => by cases n <;> exact nomatch h
  | .kt _, _, n, _, h, _ => by cases n <;> exact nomatch h
  | .tup _, _, 0, _, h, _ => nomatch h
  | .lst _, _, 0, _, h, _ => nomatch h
  | _, .tup _, _, 0, _, h => nomatch h
  | _, .lst _, _, 0, _, h => nomatch h
theorem eqvs_toP : ∀ (xs ys : List D) (n m : Nat), flatDs n xs = true → flatDs m ys = true → PyData.eqvAll (toPs xs) (toPs ys) = eqDs xs ys
  | [], [], _, _, _, _ => rfl
  | [], _ :: _, _, _, _, _ => rfl
  | _ :: _, [], _, _, _, _ => rfl
  | x :: xs, y :: ys, n, m, h, k => by
    have h' := Bool.and_eq_true_iff.mp (show (flatD n x && flatDs n xs) = true from h)
    have k' := Bool.and_eq_true_iff.mp (show (flatD m y && flatDs m ys) = true from k)
    show (PyData.eqv (toP x) (toP y) && PyData.eqvAll (toPs xs) (toPs ys)) = (eqD x y && eqDs xs ys)
    rw [eqv_toP x y n m h'.1 k'.1, eqvs_toP xs ys n m h'.2 k'.2]
end
mutual
theorem lay_toP : ∀ (x : D) (n : Nat), flatD n x = true → (toP x).canLay0 = true ∧ (toP x).depth ≤ n
  | .non, _, _ => ⟨rfl, Nat.zero_le _⟩
  | .bl _, _, _ => ⟨rfl, Nat.zero_le _⟩
  | .int _, _, _ => ⟨rfl, Nat.zero_le _⟩
  | .str _, 0, h => ⟨h, Nat.zero_le _⟩
  | .str _, n + 1, h => ⟨h, Nat.zero_le _⟩
  | .tup xs, n + 1, h => let ⟨a, b⟩ := lays_toP xs n h; ⟨a, Nat.succ_le_succ b⟩
  | .lst xs, n + 1, h => let ⟨a, b⟩ := lays_toP xs n h; ⟨a, Nat.succ_le_succ b⟩
  | .tup _, 0, h => nomatch h
  | .lst _, 0, h => nomatch h
  | .dct _ _, n, h => by cases n <;> exact nomatch h
  | .st _, n, h => by cases n <;> exact nomatch h
  | .ty _, n, h => by cases n <;> exact nomatch h
  | .fn _, n, h => by cases n <;> exact nomatch h
  | .cls _, n, h => by cases n <;> exact nomatch h
  | .obj _, n, h => by cases n <;> exact nomatch h
  | .scr _, n, h => by cases n <;> exact nomatch h
  | .kt _, n, h => by cases n <;> exact nomatch h
theorem lays_toP : ∀ (xs : List D) (n : Nat), flatDs n xs = true → PyData.canLayAll0 (toPs xs) = true ∧ PyData.depthAll (toPs xs) ≤ n
  | [], _, _ => ⟨rfl, Nat.zero_le _⟩
  | x :: xs, n, h => by
    have h' := Bool.and_eq_true_iff.mp (show (flatD n x && flatDs n xs) = true from h)
    obtain ⟨a, b⟩ := lay_toP x n h'.1
    obtain ⟨c, d⟩ := lays_toP xs n h'.2
    refine ⟨?_, Nat.max_le.mpr ⟨b, d⟩⟩
    show ((toP x).canLay0 && PyData.canLayAll0 (toPs xs)) = true
    rw [a, c]
    rfl
end
theorem shaped_of {x : D} {n : Nat} (h : flatD n x = true) (hn : n ≤ 64) : SeqAt.shaped (toP x) = true := by
  obtain ⟨a, b⟩ := lay_toP x n h
  unfold SeqAt.shaped
  rw [a, decide_eq_true (Nat.le_trans b hn)]
  rfl
section
variable {K : PySem.W.Frag} {g g' g1 : Gh} {H H' H1 : Hp} {s : St} {σ : L2.St} {v : V} {d : D}
mutual
theorem Rep.dp (w : ExH g.F H) : ∀ {v : V} {d : D} {n : Nat}, Rep g.ρ g.F v d → flatD n d = true → Dp K H v (toP d)
  | _, _, _, .non, _ => .non
  | _, _, _, .bl b, _ => .bl b
  | _, _, _, .int i, _ => .int i
  | _, _, _, .str x, _ => .str x
  | _, _, n + 1, .tup h r, f => .tup (.inl (.inl (w _ _ h))) (Reps.dp w r f)
  | _, _, 0, .tup h r, f => nomatch f
  | _, _, n, .ty _, f => by cases n <;> exact nomatch f
  | _, _, n, .obj _, f => by cases n <;> exact nomatch f
  | _, _, n, .scr _ _, f => by cases n <;> exact nomatch f
  | _, .lst ds, n, .con c h r, f => by
    cases n with
    | zero => exact nomatch f
    | succ n =>
      cases r with
      | lst r => exact .lst (.inl (.inl (w _ _ h))) (Reps.dp w r f)
  | _, .dct _ _, n, .con _ _ _, f => by cases n <;> exact nomatch f
  | _, .st _, n, .con _ _ _, f => by cases n <;> exact nomatch f
theorem Reps.dp (w : ExH g.F H) : ∀ {vs : List V} {ds : List D} {n : Nat}, Reps g.ρ g.F vs ds → flatDs n ds = true → DpAll K H vs (toPs ds)
  | _, _, _, .nil, _ => .nil
  | _, _, n, .cons h r, f => by
    have h' := Bool.and_eq_true_iff.mp f
    exact .cons (Rep.dp w h h'.1) (Reps.dp w r h'.2)
end
theorem Pk.dp (w : Wf g H) {n : Nat} (h : Pk K g H v d) (f : flatD n d = true) : Dp K H v (toP d) := by
  cases h with
  | rep h => exact h.dp w.ex f
  | con c h r =>
    cases d with
    | lst ds =>
      cases n with
      | zero => exact nomatch f
      | succ n =>
        cases r with
        | lst r => exact .lst (.inl (.inl h)) (r.dp w.ex f)
    | dct _ _ => cases n <;> exact nomatch f
    | st _ => cases n <;> exact nomatch f
    | _ => exact nomatch c
  | wr h hs r => cases n <;> exact nomatch f
  | ws h hs r => cases n <;> exact nomatch f
end
end Pv

set_option Elab.async false
set_option linter.all false
set_option maxRecDepth 100000
namespace Pv
open PySem L2 PyProof.Rows

/-- what comes of an operation by values -/
def Out (K : PySem.W.Frag) (g : Gh) (H : Hp) (r : D × Bool) (Q : VK) : Prop :=
  ∀ g' v' H', Gro g H g' H' → OpR' K g' H' v' (.pv r.1 r.2) → FrI H v' (.pv r.1 r.2) → Q v' H'
section
variable {K : PySem.W.Frag} {g g' g1 : Gh} {H H' H1 : Hp} {s : St} {σ : L2.St} {v : V} {d : D} {Q : VK}
theorem Out.val (w : Wf g H) (q : Out K g H (d, false) Q) (r : Rep g.ρ g.F v d) : Q v H := q g v H (.refl w) (.va r) trivial
theorem Out.tup {ds : List D} {vs : List V} (w : Wf g H) (q : Out K g H (.tup ds, false) Q) (r : Reps g.ρ g.F vs ds) : ∀ p, H p = none → Q (.ref p) (upd H p (.tup vs)) :=
  fun p hp => q _ _ _ (gro_tup w hp) (.va (rep_tup w hp r)) trivial
theorem Out.new {o : HO} (w : Wf g H) (q : Out K g H (d, true) Q) (c : isC d = true) (mu : Mut (some o)) (r : RepO g.ρ g.F o d) : ∀ p, H p = none → Q (.ref p) (upd H p o) :=
  fun p hp => q _ _ _ (gro_new w hp) (op_new w hp c mu r) (fri hp)
theorem Out.lst {ds : List D} {vs : List V} (w : Wf g H) (q : Out K g H (.lst ds, true) Q) (r : Reps g.ρ g.F vs ds) : ∀ p, H p = none → Q (.ref p) (upd H p (.lst vs)) :=
  q.new w rfl trivial (.lst r)
end

def rB (K : PySem.W.Frag) (f : D → D → Option (D × Bool)) : R2 := fun x y H Q => ∃ g d e r, Wf g H ∧ Pk K g H x d ∧ Pk K g H y e ∧ f d e = some r ∧ Out K g H r Q
def rC (K : PySem.W.Frag) (f : D → D → Option Bool) : R2 := fun x y H Q => ∃ g d e r, Wf g H ∧ Pk K g H x d ∧ Pk K g H y e ∧ f d e = some r ∧ Q (.bl r) H

section
variable {X : Cx}
theorem small_mul {i j : Int} (h : (small64 i || small64 j) = true) : CMul i j := by
  unfold small64 at h
  rcases Bool.or_eq_true_iff.mp h with h | h
  · have h' := Bool.and_eq_true_iff.mp h
    exact .inl ⟨of_decide_eq_true h'.1, of_decide_eq_true h'.2⟩
  · have h' := Bool.and_eq_true_iff.mp h
    exact .inr ⟨of_decide_eq_true h'.1, of_decide_eq_true h'.2⟩
theorem small_sh {i j : Int} (h : smallSh i j = true) : CPow i j := by
  unfold smallSh at h
  have h' := Bool.and_eq_true_iff.mp h
  have h2 := Bool.and_eq_true_iff.mp h'.1
  exact ⟨of_decide_eq_true h2.1, of_decide_eq_true h2.2, of_decide_eq_true h'.2⟩
theorem lim_eq : lim = sizeLine := by rw [sizeLine_eq]; rfl
/-- a tuple that stands: the same object as a value for good (it is known, or it is empty of all but plain things) -/
theorem some_ite {α : Type} {c : Bool} {a : α} {r : α} (h : (if c = true then some a else none) = some r) : c = true ∧ a = r := by
  cases c with
  | true => exact ⟨rfl, Option.some.inj h⟩
  | false => exact nomatch h
theorem some_iteP {α : Type} {c : Prop} [Decidable c] {a : α} {r : α} (h : (if c then some a else none) = some r) : c ∧ a = r := by
  by_cases hc : c
  · rw [if_pos hc] at h
    exact ⟨hc, Option.some.inj h⟩
  · rw [if_neg hc] at h
    cases h
theorem op_bin (o : Operator) : OpR X (binaryOp o) (rB X.K (binD o)) := by
  intro pins s σ H x y v u Q I rx ry h
  obtain ⟨g, d, e, r, w, pd, pe, hf, k⟩ := h
  cases d with
  | int i =>
    cases e with
    | int j =>
      have ex := pd.int
      have ey := pe.int
      subst ex ey
      cases o with
      | Add => cases hf; exact op_add pins s σ H _ _ v u Q I rx ry ⟨i, j, rfl, rfl, k.val w (.int _)⟩
      | Sub => cases hf; exact op_sub pins s σ H _ _ v u Q I rx ry ⟨i, j, rfl, rfl, k.val w (.int _)⟩
      | Mult =>
        obtain ⟨h1, rfl⟩ := some_ite hf
        exact op_mul pins s σ H _ _ v u Q I rx ry ⟨i, j, rfl, rfl, small_mul h1, k.val w (.int _)⟩
      | FloorDiv =>
        obtain ⟨h1, rfl⟩ := some_ite hf
        have h' := Bool.and_eq_true_iff.mp h1
        exact op_fdivN pins s σ H _ _ v u Q I rx ry ⟨i, j, rfl, rfl, ⟨of_decide_eq_true h'.1, of_decide_eq_true h'.2⟩, k.val w (.int _)⟩
      | Mod =>
        obtain ⟨h1, rfl⟩ := some_iteP hf
        exact op_modN pins s σ H _ _ v u Q I rx ry ⟨i, j, rfl, rfl, h1, k.val w (.int _)⟩
      | Pow =>
        obtain ⟨h1, rfl⟩ := some_ite hf
        exact op_pow pins s σ H _ _ v u Q I rx ry ⟨i, j, rfl, rfl, small_sh h1, k.val w (.int _)⟩
      | LShift =>
        obtain ⟨h1, rfl⟩ := some_ite hf
        exact op_shl pins s σ H _ _ v u Q I rx ry ⟨i, j, rfl, rfl, small_sh h1, k.val w (.int _)⟩
      | RShift =>
        obtain ⟨h1, rfl⟩ := some_iteP hf
        exact op_shr pins s σ H _ _ v u Q I rx ry ⟨i, j, rfl, rfl, h1, k.val w (.int _)⟩
      | BitAnd => cases hf; exact op_and pins s σ H _ _ v u Q I rx ry ⟨i, j, rfl, rfl, k.val w (.int _)⟩
      | BitOr => cases hf; exact op_or pins s σ H _ _ v u Q I rx ry ⟨i, j, rfl, rfl, k.val w (.int _)⟩
      | BitXor => cases hf; exact op_xor pins s σ H _ _ v u Q I rx ry ⟨i, j, rfl, rfl, k.val w (.int _)⟩
      | _ => exact nomatch hf
    | _ => exact nomatch hf
  | tup xs =>
    cases e with
    | tup ys =>
      cases o with
      | Add =>
        obtain ⟨h1, rfl⟩ := some_iteP hf
        obtain ⟨a, vs, rfl, ha, ra⟩ := pd.tup w
        obtain ⟨b, ws, rfl, hb, rb⟩ := pe.tup w
        have la := ra.length
        have lb := rb.length
        refine op_catA pins s σ H _ _ v u Q I rx ry ⟨a, b, vs, ws, rfl, rfl, ha, hb, by rw [la, lb]; exact lim_eq ▸ h1, fun z => ?_, fun _ z => ?_, fun _ _ => k.tup w (ra.append rb)⟩
        · subst z
          cases ra
          exact k.val w pe.rtup
        · subst z
          cases rb
          rw [List.append_nil] at k
          exact k.val w pd.rtup
      | _ => exact nomatch hf
    | _ => exact nomatch hf
  | lst xs =>
    cases e with
    | lst ys =>
      cases o with
      | Add =>
        obtain ⟨h1, rfl⟩ := some_iteP hf
        obtain ⟨a, vs, rfl, ha, ra⟩ := pd.lst w
        obtain ⟨b, ws, rfl, hb, rb⟩ := pe.lst w
        have la := ra.length
        have lb := rb.length
        exact op_cat pins s σ H _ _ v u Q I rx ry ⟨a, b, vs, ws, rfl, rfl, ha, hb, by rw [la, lb]; exact lim_eq ▸ h1, k.lst w (ra.append rb)⟩
      | _ => exact nomatch hf
    | _ => exact nomatch hf
  | str a =>
    cases e with
    | str b =>
      cases o with
      | Add =>
        obtain ⟨h1, rfl⟩ := some_iteP hf
        have ex := pd.str
        have ey := pe.str
        subst ex ey
        exact op_add_str pins s σ H _ _ v u Q I rx ry ⟨a, b, rfl, rfl, lim_eq ▸ h1, k.val w (.str _)⟩
      | _ => exact nomatch hf
    | _ => exact nomatch hf
  | _ => cases e <;> exact nomatch hf
end
end Pv

set_option Elab.async false
set_option linter.all false
set_option maxRecDepth 100000
namespace Pv
open PySem L2 PyProof.Rows

section
variable {X : Cx} {pins : List (Addr × Obj)} {σ : L2.St} {H : Hp} {s : Shared} {a : Addr}
theorem empty_KT (I : Inv X pins σ H s) (h : H a = some (.dK [])) : Inv X pins σ (upd H a (.dT [])) s := by
  obtain ⟨z, hd, vs, r, o, es, ep, e1, e2, e3, e4, e5, e6⟩ := I.hok a _ h
  cases r
  have e0 : es.toList = [] := by
    cases q : es.toList with
    | nil => rfl
    | cons x r => rw [q] at e5; exact nomatch e5
  refine I.write (h' := s.heap) (t' := s.toks) (x := a) (e := a) (by rw [h]; trivial) (.inl rfl) (fun _ _ _ q => q) ⟨o, e1⟩ ?_
  exact ⟨Nat.zero_le _, hd, [], .nil, o, es, ep, e1, e2, e3, by rw [e0]; rfl, List.nodup_nil⟩
theorem empty_TK (I : Inv X pins σ H s) (h : H a = some (.dT [])) : Inv X pins σ (upd H a (.dK [])) s := by
  obtain ⟨z, hd, xs, r, o, es, ep, e1, e2, e3, e4, e5⟩ := I.hok a _ h
  cases r
  have e0 : es.toList = [] := e4
  have e0' : es = #[] := by
    cases es
    simp at e0
    rw [e0]
  refine I.write (h' := s.heap) (t' := s.toks) (x := a) (e := a) (by rw [h]; trivial) (.inl rfl) (fun _ _ _ q => q) ⟨o, e1⟩ ?_
  refine ⟨Nat.zero_le _, hd, [], .nil, o, es, ep, e1, e2, e3, ?_, ?_, List.nodup_nil⟩
  · rw [e0']
    intro i
    simp
  · rw [e0]
    exact .nil
theorem upd_back {o u : HO} (h : H a = some o) : upd (upd H a u) a o = H := by
  funext b
  unfold upd
  by_cases e : b = a
  · rw [if_pos e, e, h]
  · rw [if_neg e, if_neg e]
end
section
variable {ρ : List Addr} {F : Hp} {κ : Type} [DecidableEq κ]
theorem eq_kD (a b : Key) : eqD (kD a) (kD b) = decide (a = b) := by
  cases a with
  | inl i =>
    cases b with
    | inl j => exact (key_ll i j).symm
    | inr y => exact (key_lr i y).symm
  | inr x =>
    cases b with
    | inl j => exact (key_rl x j).symm
    | inr y =>
      rw [key_rr]
      show (x == y) = decide (x = y)
      rw [Bool.beq_eq_decide_eq]
theorem eq_kDs : ∀ a b : List Key, eqDs (a.map kD) (b.map kD) = decide (a = b)
  | [], [] => rfl
  | [], _ :: _ => rfl
  | _ :: _, [] => rfl
  | x :: a, y :: b => by
    show (eqD (kD x) (kD y) && eqDs (a.map kD) (b.map kD)) = _
    rw [eq_kD, eq_kDs a b, ← Bool.decide_and]
    exact decide_eq_decide.mpr (by simp)
theorem eq_tD (a b : List Key) : eqD (.tup (a.map kD)) (.tup (b.map kD)) = decide (a = b) := eq_kDs a b
theorem leaf_is {x : D} (h : leafK x = true) : ∃ k, x = kD k := by
  cases x with
  | int i => exact ⟨.inl i, rfl⟩
  | str i => exact ⟨.inr i, rfl⟩
  | _ => exact nomatch h
theorem leafs_are : ∀ {xs : List D}, xs.all leafK = true → ∃ ks : List Key, xs = ks.map kD
  | [], _ => ⟨[], rfl⟩
  | x :: xs, h => by
    rw [List.all_cons, Bool.and_eq_true] at h
    obtain ⟨k, rfl⟩ := leaf_is h.1
    obtain ⟨ks, rfl⟩ := leafs_are h.2
    exact ⟨k :: ks, rfl⟩
theorem tup_is {x : D} (h : tupK x = true) : ∃ ks : List Key, x = .tup (ks.map kD) := by
  cases x with
  | tup xs =>
    obtain ⟨ks, rfl⟩ := leafs_are (show xs.all leafK = true from h)
    exact ⟨ks, rfl⟩
  | _ => exact nomatch h
theorem get_any (f : κ → D) (hf : ∀ a b, eqD (f a) (f b) = decide (a = b)) (k : κ) : ∀ (kvs : List (κ × V)) (ds : List D), Reps ρ F (kvs.map (·.2)) ds →
    match getD (kvs.map fun kv => f kv.1) ds (f k) with
    | some w => ∃ v, valV kvs k = some v ∧ Rep ρ F v w
    | none => valV kvs k = none
  | [], _, .nil => rfl
  | (k', v) :: kvs, d :: ds, .cons h r => by
    show match (if eqD (f k') (f k) = true then some d else getD (kvs.map fun kv => f kv.1) ds (f k)) with
      | some w => ∃ v', valV ((k', v) :: kvs) k = some v' ∧ Rep ρ F v' w
      | none => valV ((k', v) :: kvs) k = none
    rw [hf]
    by_cases e : k' = k
    · rw [decide_eq_true e, if_pos rfl]
      exact ⟨v, valV_pos e, h⟩
    · rw [decide_eq_false e, if_neg Bool.false_ne_true]
      have ih := get_any f hf k kvs ds r
      rw [valV_neg (show ¬ (k', v).1 = k from e)]
      exact ih
theorem put_keys (f : κ → D) (hf : ∀ a b, eqD (f a) (f b) = decide (a = b)) (k : κ) (kvs : List (κ × V)) : ((kvs.map fun kv => f kv.1).any fun k' => eqD k' (f k)) = kvs.any fun kv => decide (kv.1 = k) := by
  rw [List.any_map]
  congr 1
  funext kv
  exact hf kv.1 k
theorem put_any (f : κ → D) (hf : ∀ a b, eqD (f a) (f b) = decide (a = b)) (k : κ) {v : V} {w : D} (hv : Rep ρ F v w) (kvs : List (κ × V)) (ds : List D) (r : Reps ρ F (kvs.map (·.2)) ds) :
    (putD (kvs.map fun kv => f kv.1) ds (f k) w).1 = ((putK kvs k v).map fun kv => f kv.1) ∧ Reps ρ F ((putK kvs k v).map (·.2)) (putD (kvs.map fun kv => f kv.1) ds (f k) w).2 := by
  unfold putD putK
  rw [put_keys f hf]
  by_cases h : (kvs.any fun kv => decide (kv.1 = k)) = true
  · rw [if_pos h, if_pos h]
    refine ⟨?_, ?_⟩
    · show (kvs.map fun kv => f kv.1) = _
      rw [List.map_map]
      refine List.map_congr_left fun kv _ => ?_
      show f kv.1 = f (if kv.1 = k then (kv.1, v) else kv).1
      by_cases e : kv.1 = k
      · rw [if_pos e]
      · rw [if_neg e]
    · clear h
      induction kvs generalizing ds with
      | nil =>
        cases r
        exact .nil
      | cons kv kvs ih =>
        cases r with
        | @cons _ _ d ds h r =>
          refine .cons ?_ (ih ds r)
          show Rep ρ F (if kv.1 = k then (kv.1, v) else kv).2 (if eqD (f kv.1) (f k) = true then w else d)
          rw [hf]
          by_cases e : kv.1 = k
          · rw [if_pos e, decide_eq_true e, if_pos rfl]
            exact hv
          · rw [if_neg e, decide_eq_false e, if_neg Bool.false_ne_true]
            exact h
  · rw [if_neg h, if_neg h]
    refine ⟨by simp, ?_⟩
    rw [List.map_append]
    exact Reps.append r (.cons hv .nil)
end
end Pv

set_option Elab.async false
set_option linter.all false
set_option maxRecDepth 100000
namespace Pv
open PySem L2 PyProof.Rows

section
variable {ρ : List Addr} {F : Hp}
theorem Rep.key {v : V} {k : Key} (h : Rep ρ F v (kD k)) : v = kV k := by
  cases k with
  | inl i =>
    cases h with
    | int => rfl
    | con c _ _ => exact nomatch c
  | inr x =>
    cases h with
    | str => rfl
    | con c _ _ => exact nomatch c
theorem Reps.keys : ∀ {vs : List V} {ks : List Key}, Reps ρ F vs (ks.map kD) → vs = ks.map kV
  | _, [], .nil => rfl
  | _, k :: ks, .cons h r => by rw [h.key, Reps.keys (ks := ks) r]; rfl
theorem leaf_not_tup {k : Key} : tupK (kD k) = false := by cases k <;> rfl
end
section
variable {X : Cx} {pins : List (Addr × Obj)} {σ : L2.St} {g : Gh} {H : Hp} {x y v : V} {d e : D} {ks vs : List D}
theorem Pk.tupkey (w : Wf g H) {ls : List Key} (h : Pk X.K g H y (.tup (ls.map kD))) : ∃ b, y = .ref b ∧ H b = some (.tup (ls.map kV)) := by
  cases h.rtup with
  | tup hF r =>
    have e := r.keys
    subst e
    exact ⟨_, rfl, w.ex _ _ hF⟩
  | con c _ _ => exact nomatch c
theorem Pk.leafkey {k : Key} (h : Pk X.K g H y (kD k)) : y = kV k := by
  cases k with
  | inl i => exact h.int
  | inr z => exact h.str
/-- what a look-up wants -/
def Looked (g : Gh) (ks vs : List D) (d : D) (o : Option V) : Prop :=
  match getD ks vs d with
  | some w => ∃ v, o = some v ∧ Rep g.ρ g.F v w
  | none => o = none
theorem with_get (w : Wf g H) (px : Pk X.K g H x (.dct ks vs)) (py : Pk X.K g H y d) (ko : keyOk ks d = true) :
    ∃ a H1 o, x = .ref a ∧ (∀ s, Inv X pins σ H s → Inv X pins σ H1 s) ∧ (∀ s, Inv X pins σ H1 s → Inv X pins σ H s) ∧ DGet H1 a y o ∧ Looked g ks vs d o := by
  obtain ⟨a, o, rfl, ha, r⟩ := px.con' w rfl
  unfold keyOk at ko
  cases r with
  | @dK kvs ds r =>
    rcases Bool.or_eq_true_iff.mp ko with h | h
    · obtain ⟨h1, h2⟩ := Bool.and_eq_true_iff.mp h
      obtain ⟨k, rfl⟩ := leaf_is h1
      have ey := py.leafkey
      subst ey
      refine ⟨a, H, valV kvs k, rfl, fun _ i => i, fun _ i => i, DGet.k ha, ?_⟩
      have q := get_any (ρ := g.ρ) (F := g.F) kD eq_kD k kvs vs r
      unfold Looked
      split at q
      · rename_i w' e
        first | exact q | (rw [e]; exact q)
      · rename_i e
        first | exact q | (rw [e]; exact q)
    · obtain ⟨h1, h2⟩ := Bool.and_eq_true_iff.mp h
      obtain ⟨ls, rfl⟩ := tup_is h1
      obtain ⟨b, rfl, hb⟩ := py.tupkey w
      cases kvs with
      | cons kv kvs =>
        rw [List.map_cons, List.all_cons, leaf_not_tup] at h2
        exact nomatch h2
      | nil =>
        have hne : b ≠ a := fun z => by rw [z, ha] at hb; cases hb
        refine ⟨a, upd H a (.dT []), none, rfl, fun _ i => empty_KT i ha, fun _ i => ?_, .inr ⟨[], ls, b, .inl upd_same, rfl, by rw [upd_ne hne]; exact hb, rfl⟩, ?_⟩
        · have := empty_TK i upd_same
          rw [upd_back ha] at this
          exact this
        · unfold Looked
          rfl
  | @dT kvs ds r =>
    rcases Bool.or_eq_true_iff.mp ko with h | h
    · obtain ⟨h1, h2⟩ := Bool.and_eq_true_iff.mp h
      obtain ⟨k, rfl⟩ := leaf_is h1
      have ey := py.leafkey
      subst ey
      cases kvs with
      | cons kv kvs => exact nomatch h2
      | nil =>
        refine ⟨a, upd H a (.dK []), none, rfl, fun _ i => empty_TK i ha, fun _ i => ?_, .inl ⟨[], k, .inl upd_same, rfl, rfl⟩, ?_⟩
        · have := empty_KT i upd_same
          rw [upd_back ha] at this
          exact this
        · unfold Looked
          rfl
    · obtain ⟨h1, h2⟩ := Bool.and_eq_true_iff.mp h
      obtain ⟨ls, rfl⟩ := tup_is h1
      obtain ⟨b, rfl, hb⟩ := py.tupkey w
      refine ⟨a, H, valV kvs ls, rfl, fun _ i => i, fun _ i => i, DGet.t ha hb, ?_⟩
      have q := get_any (ρ := g.ρ) (F := g.F) (fun l : List Key => D.tup (l.map kD)) eq_tD ls kvs vs r
      unfold Looked
      split at q
      · rename_i w' e
        have e' : getD (kvs.map fun kv => D.tup (kv.1.map kD)) vs (.tup (ls.map kD)) = some w' := e
        first | exact q | (rw [e']; exact q)
      · rename_i e
        have e' : getD (kvs.map fun kv => D.tup (kv.1.map kD)) vs (.tup (ls.map kD)) = none := e
        first | exact q | (rw [e']; exact q)
/-- a store: a holds o; what it becomes -/
theorem with_put {a : Addr} {o : HO} (w : Wf g H) (ha : H a = some o) (ro : RepO g.ρ g.F o (.dct ks vs)) (py : Pk X.K g H y d) (ko : keyOk ks d = true) (hl : ks.length < lim) (rv : Rep g.ρ g.F v e) :
    ∃ H1 o', (∀ s, Inv X pins σ H s → Inv X pins σ H1 s) ∧ DPut H1 a y v (upd H a o') ∧ Mut (some o') ∧ RepO g.ρ g.F o' (.dct (putD ks vs d e).1 (putD ks vs d e).2) := by
  have hl' : ks.length < sizeLine := lim_eq ▸ hl
  unfold keyOk at ko
  cases ro with
  | @dK kvs ds r =>
    rcases Bool.or_eq_true_iff.mp ko with h | h
    · obtain ⟨h1, h2⟩ := Bool.and_eq_true_iff.mp h
      obtain ⟨k, rfl⟩ := leaf_is h1
      have ey := py.leafkey
      subst ey
      have q := put_any (ρ := g.ρ) (F := g.F) kD eq_kD k rv kvs vs r
      refine ⟨H, .dK (putK kvs k v), fun _ i => i, DPut.k ha (by simpa using hl'), trivial, ?_⟩
      rw [q.1]
      exact .dK q.2
    · obtain ⟨h1, h2⟩ := Bool.and_eq_true_iff.mp h
      obtain ⟨ls, rfl⟩ := tup_is h1
      obtain ⟨b, rfl, hb⟩ := py.tupkey w
      cases kvs with
      | cons kv kvs =>
        rw [List.map_cons, List.all_cons, leaf_not_tup] at h2
        exact nomatch h2
      | nil =>
        have hne : b ≠ a := fun z => by rw [z, ha] at hb; cases hb
        cases r
        refine ⟨upd H a (.dT []), .dT (putK [] ls v), fun _ i => empty_KT i ha, .inr ⟨[], ls, b, upd_same, rfl, by rw [upd_ne hne]; exact hb, Nat.lt_of_le_of_lt (Nat.zero_le _) hl', by rw [upd_upd]⟩, trivial, ?_⟩
        exact .dT (kvs := [(ls, v)]) (.cons rv .nil)
  | @dT kvs ds r =>
    rcases Bool.or_eq_true_iff.mp ko with h | h
    · obtain ⟨h1, h2⟩ := Bool.and_eq_true_iff.mp h
      obtain ⟨k, rfl⟩ := leaf_is h1
      have ey := py.leafkey
      subst ey
      cases kvs with
      | cons kv kvs => exact nomatch h2
      | nil =>
        cases r
        refine ⟨upd H a (.dK []), .dK (putK [] k v), fun _ i => empty_TK i ha, .inl ⟨[], k, upd_same, rfl, Nat.lt_of_le_of_lt (Nat.zero_le _) hl', by rw [upd_upd]⟩, trivial, ?_⟩
        exact .dK (kvs := [(k, v)]) (.cons rv .nil)
    · obtain ⟨h1, h2⟩ := Bool.and_eq_true_iff.mp h
      obtain ⟨ls, rfl⟩ := tup_is h1
      obtain ⟨b, rfl, hb⟩ := py.tupkey w
      have q := put_any (ρ := g.ρ) (F := g.F) (fun l : List Key => D.tup (l.map kD)) eq_tD ls rv kvs vs r
      refine ⟨H, .dT (putK kvs ls v), fun _ i => i, DPut.t ha hb (by simpa using hl'), trivial, ?_⟩
      have q1 : (putD (kvs.map fun kv => D.tup (kv.1.map kD)) vs (.tup (ls.map kD)) e).1 = (putK kvs ls v).map fun kv => D.tup (kv.1.map kD) := q.1
      rw [q1]
      exact .dT q.2
end
section
variable {X : Cx}
/-- in, not in, of tuples -/
def rInTD (K : PySem.W.Frag) (f : Bool → Bool) : R2 := fun x y H Q => ∃ d ds, Dp K H x d ∧ Dp K H y (.tuple ds) ∧ SeqAt.shaped d = true ∧ SeqAt.shaped (.tuple ds) = true ∧ Q (.bl (f (ds.any fun z => PyData.eqv z d))) H
theorem op_inTD (hu : X.A.units + 65 < cLine) : OpR X (compareOp .In) (rInTD X.K id) := by
  intro pins s σ H x y v u Q I rx ry h
  obtain ⟨d, ds, hd, he, sd, se, q⟩ := h
  obtain ⟨as, r1⟩ := Dp.reads I d x v hd rx
  obtain ⟨bs, r2⟩ := Dp.reads I (.tuple ds) y u he ry
  exact SeqAt.in_tuple_reads r2 r1 (SeqAt.canLay_of_shaped se) (SeqAt.canLay_of_shaped sd) (room_in_shaped sd hu) ⟨.bl _, H, I, rfl, q⟩
theorem op_notInTD (hu : X.A.units + 65 < cLine) : OpR X (compareOp .NotIn) (rInTD X.K (!·)) := by
  intro pins s σ H x y v u Q I rx ry h
  obtain ⟨d, ds, hd, he, sd, se, q⟩ := h
  obtain ⟨as, r1⟩ := Dp.reads I d x v hd rx
  obtain ⟨bs, r2⟩ := Dp.reads I (.tuple ds) y u he ry
  exact SeqAt.notIn_tuple_reads r2 r1 (SeqAt.canLay_of_shaped se) (SeqAt.canLay_of_shaped sd) (room_in_shaped sd hu) ⟨.bl _, H, I, rfl, q⟩
theorem any_toP (x : D) (hx : flatD 60 x = true) : ∀ ys : List D, flatDs 59 ys = true → ((toPs ys).any fun z => PyData.eqv z (toP x)) = ys.any fun y => eqD y x
  | [], _ => rfl
  | y :: ys, h => by
    have h' := Bool.and_eq_true_iff.mp (show (flatD 59 y && flatDs 59 ys) = true from h)
    show (PyData.eqv (toP y) (toP x) || (toPs ys).any fun z => PyData.eqv z (toP x)) = _
    rw [eqv_toP y x 59 60 h'.1 hx, any_toP x hx ys h'.2, List.any_cons]
theorem mem_inv {x : D} {ys : List D} {b : Bool} (h : memD x ys = some b) : flatD 60 x = true ∧ flatDs 59 ys = true ∧ (ys.any fun y => eqD y x) = b := by
  unfold memD at h
  obtain ⟨h1, h2⟩ := some_ite h
  obtain ⟨h3, h4⟩ := Bool.and_eq_true_iff.mp h1
  exact ⟨h3, h4, h2⟩
theorem same_inv {x y : D} {b : Bool} (h : sameD x y = some b) : flatD 60 x = true ∧ flatD 60 y = true ∧ eqD x y = b := by
  unfold sameD at h
  obtain ⟨h1, h2⟩ := some_ite h
  obtain ⟨h3, h4⟩ := Bool.and_eq_true_iff.mp h1
  exact ⟨h3, h4, h2⟩
theorem allInt_is : ∀ {xs : List D}, allInt xs = true → ∃ ns : List Int, xs = ns.map D.int
  | [], _ => ⟨[], rfl⟩
  | .int i :: xs, h => by
    obtain ⟨ns, rfl⟩ := allInt_is (xs := xs) h
    exact ⟨i :: ns, rfl⟩
theorem ltI_lex : ∀ ns ms : List Int, ltI (ns.map D.int) (ms.map D.int) = some (HT.lexLt ns ms)
  | [], [] => rfl
  | [], _ :: _ => rfl
  | _ :: _, [] => rfl
  | x :: ns, y :: ms => by
    show (if x = y then ltI (ns.map D.int) (ms.map D.int) else some (decide (x < y))) = some (if x = y then HT.lexLt ns ms else decide (x < y))
    rw [ltI_lex ns ms]
    split <;> rfl
end
end Pv

set_option Elab.async false
set_option linter.all false
set_option maxRecDepth 100000
namespace Pv
open PySem L2 PyProof.Rows
theorem Pk.isNon {K : PySem.W.Frag} {g : Gh} {H : Hp} {v : V} {d : D} (h : Pk K g H v d) : Pv.isNon d = decide (v = .non) := by
  cases h with
  | rep h =>
    cases h with
    | non => rfl
    | con c _ _ =>
      cases d with
      | non => exact nomatch c
      | _ => exact (decide_eq_false (fun z => nomatch z)).symm
    | _ => exact (decide_eq_false (fun z => nomatch z)).symm
  | con c _ _ =>
    cases d with
    | non => exact nomatch c
    | _ => exact (decide_eq_false (fun z => nomatch z)).symm
  | wr _ _ _ => exact (decide_eq_false (fun z => nomatch z)).symm
  | ws _ _ _ => exact (decide_eq_false (fun z => nomatch z)).symm
section
variable {X : Cx}
theorem op_cmp (hu : X.A.units + 65 < cLine) (o : CmpOp) : OpR X (compareOp o) (rC X.K (cmpD o)) := by
  intro pins s σ H x y v u Q I rx ry h
  obtain ⟨g, d, e, b, w, pd, pe, hf, k⟩ := h
  have hu1 : X.A.units + 1 < cLine := by omega
  have hu0 : X.A.units < cLine := by omega
  have hu64 : X.A.units + 64 < cLine := by omega
  cases o with
  | Eq =>
    obtain ⟨h1, h2, h3⟩ := same_inv hf
    refine op_eqD hu64 pins s σ H _ _ v u Q I rx ry ⟨_, _, pd.dp w h1, pe.dp w h2, shaped_of h1 (by decide), shaped_of h2 (by decide), ?_⟩
    rw [eqv_toP d e 60 60 h1 h2, h3]
    exact k
  | NotEq =>
    obtain ⟨b', hb, hb'⟩ := Option.map_eq_some_iff.mp (show (sameD d e).map (!·) = some b from hf)
    obtain ⟨h1, h2, h3⟩ := same_inv hb
    refine op_neD hu64 pins s σ H _ _ v u Q I rx ry ⟨_, _, pd.dp w h1, pe.dp w h2, shaped_of h1 (by decide), shaped_of h2 (by decide), ?_⟩
    rw [eqv_toP d e 60 60 h1 h2, h3, hb']
    exact k
  | Lt =>
    cases d with
    | int i =>
      cases e with
      | int j =>
        have ex := pd.int
        have ey := pe.int
        subst ex ey
        cases hf
        exact op_lt pins s σ H _ _ v u Q I rx ry ⟨i, j, rfl, rfl, k⟩
      | _ => exact nomatch hf
    | tup xs =>
      cases e with
      | tup ys =>
        have hf' : (if (allInt xs && allInt ys) = true then ltI xs ys else none) = some b := hf
        by_cases hc : (allInt xs && allInt ys) = true
        · rw [if_pos hc] at hf'
          obtain ⟨h1, h2⟩ := Bool.and_eq_true_iff.mp hc
          obtain ⟨ns, rfl⟩ := allInt_is h1
          obtain ⟨ms, rfl⟩ := allInt_is h2
          obtain ⟨a, vs, rfl, ha, ra⟩ := pd.tup w
          obtain ⟨c, ws, rfl, hc', rc⟩ := pe.tup w
          rw [ltI_lex] at hf'
          cases hf'
          have e1 := ra.ints
          have e2 := rc.ints
          subst e1 e2
          exact op_ltT hu0 pins s σ H _ _ v u Q I rx ry ⟨a, c, ns, ms, rfl, rfl, ha, hc', k⟩
        · rw [if_neg hc] at hf'
          cases hf'
      | _ => exact nomatch hf
    | _ => cases e <;> exact nomatch hf
  | LtE =>
    cases d with
    | int i =>
      cases e with
      | int j =>
        have ex := pd.int
        have ey := pe.int
        subst ex ey
        cases hf
        exact op_le pins s σ H _ _ v u Q I rx ry ⟨i, j, rfl, rfl, k⟩
      | _ => exact nomatch hf
    | _ => cases e <;> exact nomatch hf
  | Gt =>
    cases d with
    | int i =>
      cases e with
      | int j =>
        have ex := pd.int
        have ey := pe.int
        subst ex ey
        cases hf
        exact op_gt pins s σ H _ _ v u Q I rx ry ⟨i, j, rfl, rfl, k⟩
      | _ => exact nomatch hf
    | _ => cases e <;> exact nomatch hf
  | GtE =>
    cases d with
    | int i =>
      cases e with
      | int j =>
        have ex := pd.int
        have ey := pe.int
        subst ex ey
        cases hf
        exact op_ge pins s σ H _ _ v u Q I rx ry ⟨i, j, rfl, rfl, k⟩
      | _ => exact nomatch hf
    | _ => cases e <;> exact nomatch hf
  | Is =>
    cases e with
    | non =>
      have ey := pe.non
      subst ey
      cases hf
      exact op_isN pins s σ H _ _ v u Q I rx ry ⟨rfl, pd.isNon ▸ k⟩
    | bl c =>
      cases d with
      | bl b' =>
        have ex := pd.bl
        have ey := pe.bl
        subst ex ey
        cases hf
        exact op_isBl pins s σ H _ _ v u Q I rx ry ⟨b', c, rfl, rfl, k⟩
      | _ => exact nomatch hf
    | _ => exact nomatch hf
  | IsNot =>
    cases e with
    | non =>
      have ey := pe.non
      subst ey
      cases hf
      exact op_notN pins s σ H _ _ v u Q I rx ry ⟨rfl, pd.isNon ▸ k⟩
    | bl c =>
      cases d with
      | bl b' =>
        have ex := pd.bl
        have ey := pe.bl
        subst ex ey
        cases hf
        exact op_notBl pins s σ H _ _ v u Q I rx ry ⟨b', c, rfl, rfl, k⟩
      | _ => exact nomatch hf
    | _ => exact nomatch hf
  | In =>
    cases e with
    | dct ks vs =>
      obtain ⟨h1, h2⟩ := some_ite hf
      obtain ⟨a, H1, o, rfl, i1, i2, dg, lk⟩ := with_get (X := X) (pins := pins) (σ := σ) w pe pd h1
      obtain rfl : u = Value.ref a := ry
      refine d_in hu1 (i1 s I) dg rx fun s' I' => ⟨.bl o.isSome, H, i2 s' I', rfl, ?_⟩
      have q : o.isSome = b := by
        unfold Looked at lk
        split at lk
        · rename_i w' e
          obtain ⟨v', rfl, _⟩ := lk
          rw [e] at h2
          exact h2
        · rename_i e
          subst lk
          rw [e] at h2
          exact h2
      rw [q]
      exact k
    | lst ys =>
      obtain ⟨h1, h2, h3⟩ := mem_inv hf
      refine op_inD hu pins s σ H _ _ v u Q I rx ry ⟨_, _, pd.dp w h1, pe.dp (n := 60) w h2, shaped_of h1 (by decide), shaped_of (x := .lst ys) (n := 60) h2 (by decide), ?_⟩
      rw [any_toP d h1 ys h2, h3]
      exact k
    | tup ys =>
      obtain ⟨h1, h2, h3⟩ := mem_inv hf
      refine op_inTD hu pins s σ H _ _ v u Q I rx ry ⟨_, _, pd.dp w h1, pe.dp (n := 60) w h2, shaped_of h1 (by decide), shaped_of (x := .tup ys) (n := 60) h2 (by decide), ?_⟩
      rw [any_toP d h1 ys h2, h3]
      exact k
    | kt ys =>
      obtain ⟨h1, h2, h3⟩ := mem_inv hf
      obtain ⟨a, ws, rfl, ha, ra⟩ := pe.kt w
      refine op_inTD hu pins s σ H _ _ v u Q I rx ry ⟨_, toPs ys, pd.dp w h1, .tup ha (ra.dp w.ex h2), shaped_of h1 (by decide), shaped_of (x := .tup ys) (n := 60) h2 (by decide), ?_⟩
      rw [any_toP d h1 ys h2, h3]
      exact k
    | _ => exact nomatch hf
  | NotIn =>
    cases e with
    | dct ks vs =>
      obtain ⟨h1, h2⟩ := some_ite hf
      obtain ⟨a, H1, o, rfl, i1, i2, dg, lk⟩ := with_get (X := X) (pins := pins) (σ := σ) w pe pd h1
      obtain rfl : u = Value.ref a := ry
      refine d_notIn hu1 (i1 s I) dg rx fun s' I' => ⟨.bl (!o.isSome), H, i2 s' I', rfl, ?_⟩
      have q : (!o.isSome) = b := by
        unfold Looked at lk
        split at lk
        · rename_i w' e
          obtain ⟨v', rfl, _⟩ := lk
          rw [e] at h2
          exact h2
        · rename_i e
          subst lk
          rw [e] at h2
          exact h2
      rw [q]
      exact k
    | lst ys =>
      obtain ⟨b', hb, hb'⟩ := Option.map_eq_some_iff.mp (show (memD d ys).map (!·) = some b from hf)
      obtain ⟨h1, h2, h3⟩ := mem_inv hb
      refine op_notInD hu pins s σ H _ _ v u Q I rx ry ⟨_, _, pd.dp w h1, pe.dp (n := 60) w h2, shaped_of h1 (by decide), shaped_of (x := .lst ys) (n := 60) h2 (by decide), ?_⟩
      subst hb'
      rw [any_toP d h1 ys h2, h3]
      exact k
    | tup ys =>
      obtain ⟨b', hb, hb'⟩ := Option.map_eq_some_iff.mp (show (memD d ys).map (!·) = some b from hf)
      obtain ⟨h1, h2, h3⟩ := mem_inv hb
      refine op_notInTD hu pins s σ H _ _ v u Q I rx ry ⟨_, _, pd.dp w h1, pe.dp (n := 60) w h2, shaped_of h1 (by decide), shaped_of (x := .tup ys) (n := 60) h2 (by decide), ?_⟩
      subst hb'
      rw [any_toP d h1 ys h2, h3]
      exact k
    | kt ys =>
      obtain ⟨b', hb, hb'⟩ := Option.map_eq_some_iff.mp (show (memD d ys).map (!·) = some b from hf)
      obtain ⟨h1, h2, h3⟩ := mem_inv hb
      obtain ⟨a, ws, rfl, ha, ra⟩ := pe.kt w
      refine op_notInTD hu pins s σ H _ _ v u Q I rx ry ⟨_, toPs ys, pd.dp w h1, .tup ha (ra.dp w.ex h2), shaped_of h1 (by decide), shaped_of (x := .tup ys) (n := 60) h2 (by decide), ?_⟩
      subst hb'
      rw [any_toP d h1 ys h2, h3]
      exact k
    | _ => exact nomatch hf
end
end Pv

set_option Elab.async false
set_option linter.all false
set_option maxRecDepth 100000
namespace Pv
open PySem L2 PyProof.Rows
section
variable {X : Cx} {g : Gh} {H : Hp}
theorem atD_get {vs : List V} {ds : List D} {i : Int} {d : D} {ρ F} (r : Reps ρ F vs ds) (h : atD ds i = some d) : ∃ v, atI vs i = some v ∧ Rep ρ F v d := by
  have hl := r.length
  unfold atD at h
  unfold atI ixN
  rw [hl]
  by_cases h0 : 0 ≤ i
  · rw [if_pos h0] at h ⊢
    by_cases h1 : i < ds.length
    · rw [if_pos h1] at h ⊢
      obtain ⟨v, e, r'⟩ := r.get h
      exact ⟨v, e, r'⟩
    · rw [if_neg h1] at h
      cases h
  · rw [if_neg h0] at h ⊢
    by_cases h1 : -(ds.length : Int) ≤ i
    · rw [if_pos h1] at h ⊢
      obtain ⟨v, e, r'⟩ := r.get h
      exact ⟨v, e, r'⟩
    · rw [if_neg h1] at h
      cases h
def rIx' (K : PySem.W.Frag) : R2 := fun x y H Q => ∃ g d e r, Wf g H ∧ Pk K g H x d ∧ Pk K g H y e ∧ idxD d e = some r ∧ Out K g H (r, false) Q
theorem ix_D (hu : X.A.units + 1 < cLine) : IxR X (rIx' X.K) := by
  intro value slice pins s σ H x y v u Q I rx ry h hs
  obtain ⟨g, d, e, r, w, pd, pe, hf, k⟩ := h
  cases d with
  | scr xs =>
    cases e with
    | int i =>
      obtain ⟨a, vs, rfl, ha, ra⟩ := pd.scr w
      have ey := pe.int
      subst ey
      obtain ⟨z, e1, r1⟩ := atD_get ra (show atD xs i = some r from hf)
      exact ix_list value slice pins s σ H _ _ v u Q I rx ry ⟨a, vs, i, z, rfl, rfl, ha, e1, k.val w r1⟩ hs
    | _ => exact nomatch hf
  | lst xs =>
    cases e with
    | int i =>
      obtain ⟨a, vs, rfl, ha, ra⟩ := pd.lst w
      have ey := pe.int
      subst ey
      obtain ⟨z, e1, r1⟩ := atD_get ra (show atD xs i = some r from hf)
      exact ix_list value slice pins s σ H _ _ v u Q I rx ry ⟨a, vs, i, z, rfl, rfl, .of ha, e1, k.val w r1⟩ hs
    | _ => exact nomatch hf
  | tup xs =>
    cases e with
    | int i =>
      obtain ⟨a, vs, rfl, ha, ra⟩ := pd.tup w
      have ey := pe.int
      subst ey
      obtain ⟨z, e1, r1⟩ := atD_get ra (show atD xs i = some r from hf)
      exact ix_tup value slice pins s σ H _ _ v u Q I rx ry ⟨a, vs, i, z, rfl, rfl, ha, e1, k.val w r1⟩ hs
    | _ => exact nomatch hf
  | dct ks vs =>
    have hf' : (if keyOk ks e = true then getD ks vs e else none) = some r := hf
    by_cases hk : keyOk ks e = true
    · rw [if_pos hk] at hf'
      obtain ⟨a, H1, o, rfl, i1, i2, dg, lk⟩ := with_get (X := X) (pins := pins) (σ := σ) w pd pe hk
      obtain rfl : v = Value.ref a := rx
      unfold Looked at lk
      rw [hf'] at lk
      obtain ⟨z, rfl, rz⟩ := lk
      exact tail_any (dict_typeIs (i1 s I) dg) PySem.F.slot_dict_getitem.lookup (d_getItem hu (i1 s I) dg ry fun w' s' I' rw' => ⟨z, H, i2 s' I', rw', k.val w rz⟩) hs
    · rw [if_neg hk] at hf'
      cases hf'
  | _ => exact nomatch hf

theorem cut_reps {vs : List V} {ds : List D} {ρ F} (r : Reps ρ F vs ds) (lo hi : Option Int) : Reps ρ F (cutV vs lo hi) (cutD ds lo hi) := by
  unfold cutV cutD
  have e : ∀ n d o, HT.sIx n d o = six n d o := fun n d o => by cases o <;> rfl
  rw [e, e, r.length]
  exact (r.drop _).take _
def rSl' (K : PySem.W.Frag) : V → Option Int → Option Int → Hp → VK → Prop := fun x lo hi H Q => ∃ g d r, Wf g H ∧ Pk K g H x d ∧ slcD d lo hi = some r ∧ Out K g H r Q
theorem sl_D : SlR X (rSl' X.K) := by
  intro pins s σ H x v vl vu lo hi sl Q I rx hs pl pu h
  obtain ⟨g, d, r, w, pd, hf, k⟩ := h
  cases d with
  | scr xs =>
    cases hf
    obtain ⟨a, vs, rfl, ha, ra⟩ := pd.scr w
    exact sl_list pins s σ H _ v vl vu lo hi sl Q I rx hs pl pu ⟨a, vs, rfl, ha, k.lst w (cut_reps ra lo hi)⟩
  | lst xs =>
    cases hf
    obtain ⟨a, vs, rfl, ha, ra⟩ := pd.lst w
    exact sl_list pins s σ H _ v vl vu lo hi sl Q I rx hs pl pu ⟨a, vs, rfl, .of ha, k.lst w (cut_reps ra lo hi)⟩
  | tup xs =>
    cases hf
    obtain ⟨a, vs, rfl, ha, ra⟩ := pd.tup w
    refine sl_tupA pins s σ H _ v vl vu lo hi sl Q I rx hs pl pu ⟨a, vs, rfl, ha, fun hw => ?_, fun _ => k.tup w (cut_reps ra lo hi)⟩
    have e : cutD xs lo hi = xs := by
      unfold cutD
      have e : ∀ n d o, HT.sIx n d o = six n d o := fun n d o => by cases o <;> rfl
      rw [← e, ← e, ← ra.length, hw.1, hw.2, Nat.sub_zero, List.drop_zero]
      exact List.take_of_length_le (Nat.le_of_eq ra.length.symm)
    rw [e] at k
    exact k.val w pd.rtup
  | _ => exact nomatch hf

/-! ### built-ins -/
def rBi (K : PySem.W.Frag) (f : Bi) : List V → Hp → VK → Prop := fun xs H Q => ∃ g ds r, Wf g H ∧ Paired (Pk K g H) xs ds ∧ biD f ds = some r ∧ Out K g H r Q
theorem bls_inv : ∀ {xs : List D} {bs : List Bool}, bls xs = some bs → xs = bs.map D.bl
  | [], bs, h => by cases h; rfl
  | .bl b :: xs, bs, h => by
    obtain ⟨bs', h1, rfl⟩ := Option.map_eq_some_iff.mp (show (bls xs).map (b :: ·) = some bs from h)
    rw [bls_inv h1]
    rfl
theorem intL_inv : ∀ {xs : List D} {ns : List Int}, intL xs = some ns → xs = ns.map D.int
  | [], bs, h => by cases h; rfl
  | .int b :: xs, bs, h => by
    obtain ⟨bs', h1, rfl⟩ := Option.map_eq_some_iff.mp (show (intL xs).map (b :: ·) = some bs from h)
    rw [intL_inv h1]
    rfl
theorem sumD_inv : ∀ {xs : List D} {n : Int}, sumD xs = some n → ∃ ns : List Int, xs = ns.map D.int ∧ ns.sum = n
  | [], n, h => by cases h; exact ⟨[], rfl, rfl⟩
  | .int b :: xs, n, h => by
    obtain ⟨m, h1, rfl⟩ := Option.map_eq_some_iff.mp (show (sumD xs).map (b + ·) = some n from h)
    obtain ⟨ns, rfl, rfl⟩ := sumD_inv h1
    exact ⟨b :: ns, rfl, List.sum_cons⟩
theorem Reps.bls {ρ F} : ∀ {vs : List V} {ns : List Bool}, Reps ρ F vs (ns.map D.bl) → vs = ns.map V.bl
  | _, [], .nil => rfl
  | _, n :: ns, .cons h r => by
    rw [Reps.bls (ns := ns) r]
    cases h with
    | bl => rfl
    | con c _ _ => exact nomatch c
theorem maxI_is : ∀ (ns : List Int), ns ≠ [] → maxI ns ∈ ns ∧ ∀ y ∈ ns, y ≤ maxI ns
  | [], h => absurd rfl h
  | [x], _ => ⟨by simp [maxI], fun y hy => by simp at hy; subst hy; exact Int.le_refl _⟩
  | x :: z :: r, _ => by
    obtain ⟨h1, h2⟩ := maxI_is (z :: r) (by simp)
    have e : maxI (x :: z :: r) = if maxI (z :: r) > x then maxI (z :: r) else x := rfl
    rw [e]
    by_cases hc : maxI (z :: r) > x
    · rw [if_pos hc]
      refine ⟨List.mem_cons_of_mem _ h1, fun y hy => ?_⟩
      rcases List.mem_cons.mp hy with rfl | hy
      · omega
      · exact h2 y hy
    · rw [if_neg hc]
      refine ⟨List.mem_cons_self, fun y hy => ?_⟩
      rcases List.mem_cons.mp hy with rfl | hy
      · exact Int.le_refl _
      · have := h2 y hy
        omega
theorem minI_is : ∀ (ns : List Int), ns ≠ [] → minI ns ∈ ns ∧ ∀ y ∈ ns, minI ns ≤ y
  | [], h => absurd rfl h
  | [x], _ => ⟨by simp [minI], fun y hy => by simp at hy; subst hy; exact Int.le_refl _⟩
  | x :: z :: r, _ => by
    obtain ⟨h1, h2⟩ := minI_is (z :: r) (by simp)
    have e : minI (x :: z :: r) = if minI (z :: r) < x then minI (z :: r) else x := rfl
    rw [e]
    by_cases hc : minI (z :: r) < x
    · rw [if_pos hc]
      refine ⟨List.mem_cons_of_mem _ h1, fun y hy => ?_⟩
      rcases List.mem_cons.mp hy with rfl | hy
      · omega
      · exact h2 y hy
    · rw [if_neg hc]
      refine ⟨List.mem_cons_self, fun y hy => ?_⟩
      rcases List.mem_cons.mp hy with rfl | hy
      · exact Int.le_refl _
      · have := h2 y hy
        omega
end
end Pv

set_option Elab.async false
set_option linter.all false
set_option maxRecDepth 100000
namespace Pv
open PySem L2 PyProof.Rows
/-! ### sorting -/
section
variable {α : Type}
def insG (lt : α → α → Bool) (x : α) : List α → List α
  | [] => [x]
  | y :: r => if lt y x then y :: insG lt x r else x :: y :: r
def isortG (lt : α → α → Bool) : List α → List α
  | [] => []
  | x :: r => insG lt x (isortG lt r)
theorem insG_perm (lt : α → α → Bool) (x : α) : ∀ l : List α, (insG lt x l).Perm (x :: l)
  | [] => .refl _
  | y :: r => by
    unfold insG
    split
    · exact ((insG_perm lt x r).cons y).trans (List.Perm.swap x y r)
    · exact .refl _
theorem isortG_perm (lt : α → α → Bool) : ∀ l : List α, (isortG lt l).Perm l
  | [] => .refl _
  | x :: r => (insG_perm lt x _).trans ((isortG_perm lt r).cons x)
theorem insG_sorted (lt : α → α → Bool) (asym : ∀ a b, lt a b = true → lt b a = false) (tr : ∀ a b c, lt b a = false → lt c b = false → lt c a = false) (x : α) : ∀ l : List α, l.Pairwise (fun a b => lt b a = false) → (insG lt x l).Pairwise (fun a b => lt b a = false)
  | [], _ => by simp [insG]
  | y :: r, h => by
    have h' := List.pairwise_cons.mp h
    unfold insG
    split
    · rename_i c
      refine List.pairwise_cons.mpr ⟨fun z hz => ?_, insG_sorted lt asym tr x r h'.2⟩
      rcases List.mem_cons.mp ((insG_perm lt x r).mem_iff.mp hz) with rfl | hz
      · exact asym _ _ c
      · exact h'.1 z hz
    · rename_i c
      have c' : lt y x = false := by simpa using c
      refine List.pairwise_cons.mpr ⟨fun z hz => ?_, h⟩
      rcases List.mem_cons.mp hz with rfl | hz
      · exact c'
      · exact tr _ _ _ c' (h'.1 z hz)
theorem isortG_sorted (lt : α → α → Bool) (asym : ∀ a b, lt a b = true → lt b a = false) (tr : ∀ a b c, lt b a = false → lt c b = false → lt c a = false) : ∀ l : List α, (isortG lt l).Pairwise (fun a b => lt b a = false)
  | [] => .nil
  | x :: r => insG_sorted lt asym tr x _ (isortG_sorted lt asym tr r)
theorem isort_map (lt : α → α → Bool) (f : α → D) (hf : ∀ a b, ltS (f a) (f b) = lt a b) : ∀ l : List α, isort (l.map f) = (isortG lt l).map f := by
  have hi : ∀ (x : α) (l : List α), ins (f x) (l.map f) = (insG lt x l).map f := by
    intro x l
    induction l with
    | nil => rfl
    | cons y r ih =>
      show (if ltS (f y) (f x) then f y :: ins (f x) (r.map f) else f x :: f y :: r.map f) = _
      rw [hf, ih]
      show _ = (if lt y x then y :: insG lt x r else x :: y :: r).map f
      by_cases c : lt y x = true
      · rw [if_pos c, if_pos c]
        rfl
      · rw [if_neg c, if_neg c]
        rfl
  intro l
  induction l with
  | nil => rfl
  | cons x r ih =>
    show ins (f x) (isort (r.map f)) = (insG lt x (isortG lt r)).map f
    rw [ih, hi]
end
theorem lex_irr : ∀ ns : List Int, HT.lexLt ns ns = false
  | [] => rfl
  | x :: ns => by
    rw [HT.lexLt_cons, if_pos rfl]
    exact lex_irr ns
theorem lexLt_is : ∀ ns ms : List Int, HT.lexLt ns ms = decide (ns < ms)
  | [], [] => by simp [HT.lexLt]
  | [], _ :: _ => by simp [HT.lexLt]
  | _ :: _, [] => by simp [HT.lexLt]
  | x :: ns, y :: ms => by
    rw [HT.lexLt_cons, lexLt_is ns ms]
    by_cases h : x = y
    · subst h
      rw [if_pos rfl]
      exact decide_eq_decide.mpr (by simp [List.cons_lt_cons_iff])
    · rw [if_neg h]
      refine decide_eq_decide.mpr ?_
      rw [List.cons_lt_cons_iff]
      constructor
      · exact fun q => .inl q
      · rintro (q | ⟨q, _⟩)
        · exact q
        · exact absurd q h

theorem lst_asym (a b : List Int) (h : decide (a < b) = true) : decide (b < a) = false := decide_eq_false (List.not_lt.mpr (List.le_of_lt (of_decide_eq_true h)))
theorem lst_tr (a b c : List Int) (h : decide (b < a) = false) (k : decide (c < b) = false) : decide (c < a) = false := by
  have h1 : a ≤ b := List.not_lt.mp (of_decide_eq_false h)
  have h2 : b ≤ c := List.not_lt.mp (of_decide_eq_false k)
  exact decide_eq_false (List.not_lt.mpr (List.le_trans h1 h2))
def tI (ns : List Int) : D := .tup (ns.map D.int)
theorem ltS_tI (a b : List Int) : ltS (tI a) (tI b) = decide (a < b) := by
  show (ltI (a.map D.int) (b.map D.int)).getD false = _
  rw [ltI_lex, lexLt_is]
  rfl
theorem ltS_int (a b : Int) : ltS (.int a) (.int b) = decide (a < b) := rfl
theorem isTupI_is {x : D} (h : isTupI x = true) : ∃ ns : List Int, ns ≠ [] ∧ x = tI ns := by
  cases x with
  | tup xs =>
    cases xs with
    | nil => exact nomatch h
    | cons y r =>
      obtain ⟨ns, e⟩ := allInt_is (show allInt (y :: r) = true from h)
      refine ⟨ns, fun z => ?_, by rw [tI, e]⟩
      rw [z] at e
      exact nomatch e
  | _ => exact nomatch h
theorem tups_are : ∀ {xs : List D}, xs.all isTupI = true → ∃ nss : List (List Int), (∀ n ∈ nss, n ≠ []) ∧ xs = nss.map tI
  | [], _ => ⟨[], (fun _ h => nomatch h), rfl⟩
  | x :: xs, h => by
    rw [List.all_cons, Bool.and_eq_true] at h
    obtain ⟨n, hn, rfl⟩ := isTupI_is h.1
    obtain ⟨ns, hs, rfl⟩ := tups_are h.2
    exact ⟨n :: ns, fun m hm => by
      rcases List.mem_cons.mp hm with rfl | hm
      · exact hn
      · exact hs m hm, rfl⟩
theorem isInts_are : ∀ {xs : List D}, xs.all isInt = true → ∃ ns : List Int, xs = ns.map D.int
  | [], _ => ⟨[], rfl⟩
  | .int i :: xs, h => by
    rw [List.all_cons, Bool.and_eq_true] at h
    obtain ⟨ns, rfl⟩ := isInts_are h.2
    exact ⟨i :: ns, rfl⟩
theorem isort_ints (ns ns' : List Int) (hp : ns'.Perm ns) (hs : ns'.Pairwise (· ≤ ·)) : isort (ns.map D.int) = ns'.map D.int := by
  rw [isort_map (fun a b : Int => decide (a < b)) D.int ltS_int]
  have h1 := isortG_perm (fun a b : Int => decide (a < b)) ns
  have h2 := isortG_sorted (fun a b : Int => decide (a < b)) (fun a b h => by have := of_decide_eq_true h; exact decide_eq_false (by omega)) (fun a b c h k => by
    have h1 := of_decide_eq_false h
    have h2 := of_decide_eq_false k
    exact decide_eq_false (by omega)) ns
  have h3 : (isortG (fun a b : Int => decide (a < b)) ns).Pairwise (· ≤ ·) := h2.imp fun h => by have := of_decide_eq_false h; omega
  rw [PySem.W.ksm_same (h1.trans hp.symm) h3 hs]

/-! sorted of tuples of whole numbers -/
section
variable {X : Cx}
def leL (a b : List Int) : Bool := !decide (b < a)
theorem leL_eq : PySem.W.dataLe false (fun b : V × List Int => PyData.tuple (b.2.map PyData.int)) = fun a b => leL a.2 b.2 := by
  rw [PySem.W.dataLe_eq]
  funext a b
  show (!PySem.W.dataLt (.tuple (b.2.map PyData.int)) (.tuple (a.2.map PyData.int))) = _
  rw [PySem.W.dataLt_tuple]
  show (!PySem.W.rowLt (b.2.map PyData.int) (a.2.map PyData.int)) = _
  rw [PySem.W.dataLt_ints]
  rfl
theorem merge_map (l : List (V × List Int)) : (l.mergeSort (fun a b => leL a.2 b.2)).map (fun b => tI b.2) = isort (l.map fun b => tI b.2) := by
  have e0 : (l.map fun b : V × List Int => tI b.2) = (l.map (·.2)).map tI := by rw [List.map_map]; rfl
  rw [e0, isort_map (fun a b : List Int => decide (a < b)) tI ltS_tI]
  have e1 : ((l.mergeSort (fun a b => leL a.2 b.2)).map (fun b => tI b.2)) = ((l.mergeSort (fun a b => leL a.2 b.2)).map (·.2)).map tI := by rw [List.map_map]; rfl
  rw [e1]
  congr 1
  have tot : ∀ a b : List Int, (leL a b || leL b a) = true := fun a b => by
    unfold leL
    cases h : decide (b < a) with
    | false => rfl
    | true => rw [lst_asym _ _ h]; rfl
  have tr : ∀ a b c : List Int, leL a b = true → leL b c = true → leL a c = true := fun a b c h k => by
    unfold leL at *
    rw [lst_tr a b c (by simpa using h) (by simpa using k)]
    rfl
  have anti : ∀ a b : List Int, leL a b = true → leL b a = true → a = b := fun a b h k => by
    unfold leL at *
    have h1 : ¬ b < a := by simpa using h
    have h2 : ¬ a < b := by simpa using k
    exact List.le_antisymm (List.not_lt.mp h1) (List.not_lt.mp h2)
  have p1 := (List.mergeSort_perm l (fun a b => leL a.2 b.2)).map (·.2)
  have s1 := List.pairwise_mergeSort (le := fun a b : V × List Int => leL a.2 b.2) (fun a b c => tr a.2 b.2 c.2) (fun a b => tot a.2 b.2) l
  have s1' : ((l.mergeSort (fun a b => leL a.2 b.2)).map (·.2)).Pairwise (fun a b => leL a b = true) := by
    rw [List.pairwise_map]
    exact s1
  have p2 := isortG_perm (fun a b : List Int => decide (a < b)) (l.map (·.2))
  have s2 := isortG_sorted (fun a b : List Int => decide (a < b)) lst_asym lst_tr (l.map (·.2))
  have s2' : (isortG (fun a b : List Int => decide (a < b)) (l.map (·.2))).Pairwise (fun a b => leL a b = true) := s2.imp fun h => by
    unfold leL
    rw [h]
    rfl
  rw [PySem.W.Srt.the_of_perm leL tr tot anti p1 s1', ← PySem.W.Srt.the_of_perm leL tr tot anti p2 s2']
theorem depth_ints : ∀ ns : List Int, PyData.depthAll (ns.map PyData.int) = 0
  | [] => rfl
  | _ :: ns => by
    show max 0 (PyData.depthAll (ns.map PyData.int)) = 0
    rw [depth_ints ns]
    rfl
/-- the tuples' own list -/
theorem tup_rows {ρ F} : ∀ {vs : List V} {nss : List (List Int)}, Reps ρ F vs (nss.map tI) → ∃ l : List (V × List Int), vs = l.map (·.1) ∧ nss = l.map (·.2) ∧ ∀ b ∈ l, Rep ρ F b.1 (tI b.2)
  | _, [], .nil => ⟨[], rfl, rfl, fun _ h => nomatch h⟩
  | v :: vs, n :: nss, .cons h r => by
    obtain ⟨l, e1, e2, e3⟩ := tup_rows (nss := nss) r
    exact ⟨(v, n) :: l, by rw [e1]; rfl, by rw [e2]; rfl, fun b hb => by
      rcases List.mem_cons.mp hb with rfl | hb
      · exact h
      · exact e3 b hb⟩
theorem reps_of {ρ F} : ∀ (l : List (V × List Int)), (∀ b ∈ l, Rep ρ F b.1 (tI b.2)) → Reps ρ F (l.map (·.1)) (l.map fun b => tI b.2)
  | [], _ => .nil
  | b :: l, h => .cons (h b List.mem_cons_self) (reps_of l fun c hc => h c (List.mem_cons_of_mem _ hc))
theorem each_of_vals {R : Value → (V × List Int) → Prop} : ∀ {l : List (V × List Int)} {us : List Value}, Vals (l.map (·.1)) us → (∀ b ∈ l, ∀ u, RelV b.1 u → R u b) → PySem.W.EachIs R us l
  | [], _, .nil, _ => .nil
  | b :: l, _, .cons r t, h => .cons (h b List.mem_cons_self _ r) (each_of_vals t fun c hc => h c (List.mem_cons_of_mem _ hc))
theorem vals_of_each : ∀ {l : List (V × List Int)} {us : List Value}, PySem.W.EachIs (fun u b => RelV b.1 u) us l → Vals (l.map (·.1)) us
  | _, _, .nil => .nil
  | _, _, .cons r t => .cons r (vals_of_each t)
theorem sort_tups {pins : List (Addr × Obj)} {s : Shared} {σ : L2.St} {H : Hp} {a : Addr} {g : Gh} {Q : VK} {l : List (V × List Int)} (hu : X.A.units + 65 < cLine) (I : Inv X pins σ H s) (w : ExH g.F H) (ha : H a = some (.lst (l.map (·.1))))
    (hl : ∀ b ∈ l, Rep g.ρ g.F b.1 (tI b.2)) (hn : ∀ b ∈ l, b.2 ≠ []) (k : ∀ p, H p = none → Q (.ref p) (upd H p (.lst ((l.mergeSort (fun a b => leL a.2 b.2)).map (·.1))))) :
    wpAny (model X.prog X.w) X.A (call (.builtin "sorted") [.ref a]) (EP X pins σ Q) X.xe s := by
  obtain ⟨its, rv, pl, hz⟩ := I.list (.of ha)
  have hz' : l.length ≤ sizeLine := by simpa using hz
  refine PySem.W.sorted_data (R := fun u (b : V × List Int) => RelV b.1 u) (enc := fun b : V × List Int => PyData.tuple (b.2.map PyData.int)) (bs := l) (vs := its) pl.isList (each_of_vals rv fun b _ u r => r) (each_of_vals rv fun b hb u r => ?_) ?_ ?_ hz' (fun b _ => ?_) fun out h1 h2 => ?_
  · have dp := Rep.dp (K := X.K) w (hl b hb) (n := 1) (by
      show flatDs 0 (b.2.map D.int) = true
      clear r
      induction b.2 with
      | nil => rfl
      | cons x r ih => exact ih)
    have := Dp.reads I _ b.1 u dp r
    have e : toP (tI b.2) = PyData.tuple (b.2.map PyData.int) := by
      show PyData.tuple (toPs (b.2.map D.int)) = _
      rw [toPs_map, List.map_map]
      rfl
    rw [e] at this
    exact this
  · exact PySem.W.AllAlike.of fun b b' => by
      show PySem.W.alike (.tuple (b.2.map PyData.int)) (.tuple (b'.2.map PyData.int)) = true
      have := PySem.W.alike_ints b.2 b'.2
      simpa [PySem.W.alike] using this
  · refine .inl fun d hd => ?_
    obtain ⟨b, hb, rfl⟩ := List.mem_map.mp hd
    have := hn b hb
    cases h : b.2 with
    | nil => exact absurd h this
    | cons x r => exact ⟨.int x, r.map PyData.int, rfl⟩
  · show X.A.units + 2 + (PyData.depthAll (b.2.map PyData.int) + 1) < cLine
    rw [depth_ints]
    omega
  · rw [leL_eq] at h2
    obtain ⟨ep, he'⟩ := PyProof.Rows.sortedAll_at s.heap its out.toArray
    have hlen : ((l.mergeSort (fun a b => leL a.2 b.2)).map (·.1)).length ≤ sizeLine := by
      rw [List.length_map, List.length_mergeSort]
      exact hz'
    exact ⟨.ref _, upd H (s.heap.objs.size + 1) (.lst ((l.mergeSort (fun a b => leL a.2 b.2)).map (·.1))), I.laid (t' := s.toks) (fun _ _ => PyProof.Rows.sortedAll_old) (Nat.le_succ _) ⟨hlen, out, ep, vals_of_each h2, he'⟩, rfl, k _ (I.hok.fresh (Nat.le_succ _))⟩
end
end Pv

set_option Elab.async false
set_option linter.all false
set_option maxRecDepth 100000
namespace Pv
open PySem L2 PyProof.Rows
section
variable {X : Cx} {g : Gh} {H : Hp} {K : PySem.W.Frag}
theorem Pk.ty_is (w : Wf g H) {v : V} {d : D} {t : String} (h : Pk K g H v d) (e : tyD d = some t) : TyX K H v (.type t) := by
  cases d with
  | non => cases e; rw [h.non]; exact .base .non
  | bl b => cases e; rw [h.bl]; exact .base (.bl b)
  | int i => cases e; rw [h.int]; exact .base (.int i)
  | str x => cases e; rw [h.str]; exact .base (.str x)
  | tup xs =>
    cases e
    cases h.rtup with
    | tup hF _ => exact .base (.tup (w.ex _ _ hF))
    | con c _ _ => exact nomatch c
  | lst xs =>
    cases e
    obtain ⟨a, vs, rfl, ha, _⟩ := h.lst w
    exact .base (.lst ha)
  | dct ks vs =>
    cases e
    obtain ⟨a, o, rfl, ha, r⟩ := h.con' w rfl
    cases r with
    | dK _ => exact .base (.dK ha)
    | dT _ => exact .base (.dT ha)
  | _ => exact nomatch e
theorem kit_tab {u t : String} {b : Bool} (hu : u = "NoneType" ∨ u = "bool" ∨ u = "int" ∨ u = "str" ∨ u = "tuple" ∨ u = "list" ∨ u = "dict") (h : isiS u t = some b) : kitB u t = some b := by
  unfold isiS at h
  by_cases h1 : t = "int"
  · subst h1
    rw [if_pos rfl] at h
    rcases hu with rfl | rfl | rfl | rfl | rfl | rfl | rfl <;> (cases h; decide +kernel)
  · rw [if_neg h1] at h
    by_cases h2 : t = "bool" ∨ t = "tuple" ∨ t = "str"
    · rw [if_pos h2] at h
      rcases h2 with rfl | rfl | rfl <;> (rcases hu with rfl | rfl | rfl | rfl | rfl | rfl | rfl <;> (cases h; decide +kernel))
    · rw [if_neg h2] at h
      cases h
theorem tyD_in {d : D} {t : String} (e : tyD d = some t) : t = "NoneType" ∨ t = "bool" ∨ t = "int" ∨ t = "str" ∨ t = "tuple" ∨ t = "list" ∨ t = "dict" := by
  cases d <;> cases e <;> simp
def valBi : Bi → Value
  | .len => .builtin "len"
  | .all => .builtin "all"
  | .any => .builtin "any"
  | .sum => .builtin "sum"
  | .sorted => .builtin "sorted"
  | .tuple => .type "tuple"
  | .list => .type "list"
  | .max => .builtin "max"
  | .min => .builtin "min"
  | .abs => .builtin "abs"
  | .int => .type "int"
  | .divmod => .builtin "divmod"
  | .isi => .builtin "isinstance"
  | .repr => .builtin "repr"
  | .str => .type "str"
  | .bool => .type "bool"
  | .sset => .type "set"
theorem pk1 {xs : List V} {d : D} (h : Paired (Pk K g H) xs [d]) : ∃ x, xs = [x] ∧ Pk K g H x d := by
  cases h with
  | cons h r =>
    cases r
    exact ⟨_, rfl, h⟩
theorem pk2 {xs : List V} {d e : D} (h : Paired (Pk K g H) xs [d, e]) : ∃ x y, xs = [x, y] ∧ Pk K g H x d ∧ Pk K g H y e := by
  cases h with
  | cons h r =>
    cases r with
    | cons h' r =>
      cases r
      exact ⟨_, _, rfl, h, h'⟩
theorem bi_D (hu : X.A.units + 65 < cLine) (hc : X.calm = true) (f : Bi) : CallR X (valBi f) (rBi X.K f) := by
  intro pins s σ H xs us Q I r h
  obtain ⟨g, ds, res, w, pr, hf, k⟩ := h
  unfold biD at hf
  split at hf
  · -- len scr
    cases hf
    obtain ⟨x, rfl, p⟩ := pk1 pr
    obtain ⟨a, vs, rfl, ha, ra⟩ := p.scr w
    rw [← ra.length] at k
    exact call_len_seq pins s σ H _ us Q I r ⟨a, vs, rfl, .inl ha, k.val w (.int _)⟩
  · -- len lst
    cases hf
    obtain ⟨x, rfl, p⟩ := pk1 pr
    obtain ⟨a, vs, rfl, ha, ra⟩ := p.lst w
    rw [← ra.length] at k
    exact call_len_seq pins s σ H _ us Q I r ⟨a, vs, rfl, .inl (.of ha), k.val w (.int _)⟩
  · -- len tup
    cases hf
    obtain ⟨x, rfl, p⟩ := pk1 pr
    obtain ⟨a, vs, rfl, ha, ra⟩ := p.tup w
    rw [← ra.length] at k
    exact call_len_seq pins s σ H _ us Q I r ⟨a, vs, rfl, .inr ha, k.val w (.int _)⟩
  · -- len dct
    cases hf
    obtain ⟨x, rfl, p⟩ := pk1 pr
    obtain ⟨a, o, rfl, ha, ro⟩ := p.con' w rfl
    cases ro with
    | dK _ =>
      rw [List.length_map] at k
      exact call_lenD pins s σ H _ us Q I r ⟨a, _, rfl, ha, k.val w (.int _)⟩
    | dT _ =>
      rw [List.length_map] at k
      exact call_len_dT pins s σ H _ us Q I r ⟨a, _, rfl, ha, k.val w (.int _)⟩
  · -- all
    obtain ⟨bs, hb, rfl⟩ := Option.map_eq_some_iff.mp hf
    have e := bls_inv hb
    subst e
    obtain ⟨x, rfl, p⟩ := pk1 pr
    obtain ⟨a, vs, rfl, ha, ra⟩ := p.lst w
    have e := ra.bls
    subst e
    exact cr_all hc pins s σ H _ us Q I r ⟨a, bs, rfl, .of ha, k.val w (.bl _)⟩
  · -- any
    obtain ⟨bs, hb, rfl⟩ := Option.map_eq_some_iff.mp hf
    have e := bls_inv hb
    subst e
    obtain ⟨x, rfl, p⟩ := pk1 pr
    obtain ⟨a, vs, rfl, ha, ra⟩ := p.lst w
    have e := ra.bls
    subst e
    exact cr_any hc pins s σ H _ us Q I r ⟨a, bs, rfl, .of ha, k.val w (.bl _)⟩
  · -- sum
    obtain ⟨n, hb, rfl⟩ := Option.map_eq_some_iff.mp hf
    obtain ⟨ns, rfl, rfl⟩ := sumD_inv hb
    obtain ⟨x, rfl, p⟩ := pk1 pr
    obtain ⟨a, vs, rfl, ha, ra⟩ := p.lst w
    have e := ra.ints
    subst e
    exact cr_sum hc pins s σ H _ us Q I r ⟨a, ns, rfl, .of ha, k.val w (.int _)⟩
  · -- sorted
    obtain ⟨ys, hb, rfl⟩ := Option.map_eq_some_iff.mp hf
    obtain ⟨x, rfl, p⟩ := pk1 pr
    obtain ⟨a, vs, rfl, ha, ra⟩ := p.lst w
    unfold sortD at hb
    obtain ⟨hk, rfl⟩ := some_ite hb
    rcases Bool.or_eq_true_iff.mp hk with hk | hk
    · obtain ⟨ns, rfl⟩ := isInts_are hk
      have e := ra.ints
      subst e
      refine cr_sortedI pins s σ H _ us Q I r ⟨a, ns, rfl, .of ha, fun ns' p hp hs hn => ?_⟩
      rw [isort_ints ns ns' hp hs] at k
      refine k.lst w ?_ p hn
      clear k hs hp
      induction ns' with
      | nil => exact .nil
      | cons n r ih => exact .cons (.int n) ih
    · obtain ⟨nss, hne, rfl⟩ := tups_are hk
      obtain ⟨l, rfl, rfl, hl⟩ := tup_rows ra
      obtain ⟨u, rfl, ru⟩ := vals1 r
      obtain rfl : u = .ref a := ru
      refine sort_tups hu I w.ex ha hl (fun b hb => hne b.2 (List.mem_map.mpr ⟨b, hb, rfl⟩)) fun p hp => ?_
      rw [List.map_map] at k
      have e : isort (l.map (tI ∘ fun x => x.2)) = (l.mergeSort fun a b => leL a.2 b.2).map fun b => tI b.2 := (merge_map l).symm
      rw [e] at k
      exact k.lst w (reps_of _ fun b hb => hl b ((List.mergeSort_perm l _).mem_iff.mp hb)) p hp
  · -- tuple of a list
    cases hf
    obtain ⟨x, rfl, p⟩ := pk1 pr
    obtain ⟨a, vs, rfl, ha, ra⟩ := p.lst w
    exact call_tuple_of pins s σ H _ us Q I r ⟨a, vs, rfl, .inl ⟨.of ha, k.tup w ra⟩⟩
  · cases hf
    obtain ⟨x, rfl, p⟩ := pk1 pr
    obtain ⟨a, vs, e, ha, ra⟩ := p.tup w
    have k' := k.val w p.rtup
    subst e
    exact call_tuple_of pins s σ H _ us Q I r ⟨a, vs, rfl, .inr ⟨ha, k'⟩⟩
  · -- list
    cases hf
    obtain ⟨x, rfl, p⟩ := pk1 pr
    obtain ⟨a, vs, rfl, ha, ra⟩ := p.lst w
    exact call_list_of pins s σ H _ us Q I r ⟨a, vs, rfl, .inl (.of ha), k.lst w ra⟩
  · cases hf
    obtain ⟨x, rfl, p⟩ := pk1 pr
    obtain ⟨a, vs, rfl, ha, ra⟩ := p.tup w
    exact call_list_of pins s σ H _ us Q I r ⟨a, vs, rfl, .inr ha, k.lst w ra⟩
  · -- max of two
    cases hf
    obtain ⟨x, y, rfl, p, q⟩ := pk2 pr
    have ex := p.int
    have ey := q.int
    subst ex ey
    exact call_max2 hc pins s σ H _ us Q I r ⟨_, _, rfl, k.val w (.int _)⟩
  · cases hf
    obtain ⟨x, y, rfl, p, q⟩ := pk2 pr
    have ex := p.int
    have ey := q.int
    subst ex ey
    exact call_min2 hc pins s σ H _ us Q I r ⟨_, _, rfl, k.val w (.int _)⟩
  · -- max of a list
    split at hf
    · cases hf
    · rename_i hne
      obtain ⟨ns, hb, rfl⟩ := Option.map_eq_some_iff.mp hf
      have e := intL_inv hb
      subst e
      obtain ⟨x, rfl, p⟩ := pk1 pr
      obtain ⟨a, vs, rfl, ha, ra⟩ := p.lst w
      have e := ra.ints
      subst e
      have hn : ns ≠ [] := fun z => hne (by rw [z]; rfl)
      obtain ⟨m1, m2⟩ := maxI_is ns hn
      refine cr_max hc pins s σ H _ us Q I r ⟨a, ns, rfl, .of ha, List.length_pos_iff.mpr hn, fun m hm hle => ?_⟩
      have e : m = maxI ns := Int.le_antisymm (m2 m hm) (hle _ m1)
      rw [e]
      exact k.val w (.int _)
  · split at hf
    · cases hf
    · rename_i hne
      obtain ⟨ns, hb, rfl⟩ := Option.map_eq_some_iff.mp hf
      have e := intL_inv hb
      subst e
      obtain ⟨x, rfl, p⟩ := pk1 pr
      obtain ⟨a, vs, rfl, ha, ra⟩ := p.lst w
      have e := ra.ints
      subst e
      have hn : ns ≠ [] := fun z => hne (by rw [z]; rfl)
      obtain ⟨m1, m2⟩ := minI_is ns hn
      refine cr_min hc pins s σ H _ us Q I r ⟨a, ns, rfl, .of ha, List.length_pos_iff.mpr hn, fun m hm hle => ?_⟩
      have e : m = minI ns := Int.le_antisymm (hle _ m1) (m2 m hm)
      rw [e]
      exact k.val w (.int _)
  · -- abs
    cases hf
    obtain ⟨x, rfl, p⟩ := pk1 pr
    have ex := p.int
    subst ex
    exact call_abs pins s σ H _ us Q I r ⟨_, rfl, k.val w (.int _)⟩
  · cases hf
    obtain ⟨x, rfl, p⟩ := pk1 pr
    have ex := p.int
    subst ex
    exact call_int1 pins s σ H _ us Q I r (.inl ⟨_, rfl, k.val w (.int _)⟩)
  · cases hf
    obtain ⟨x, rfl, p⟩ := pk1 pr
    have ex := p.bl
    subst ex
    exact call_int1 pins s σ H _ us Q I r (.inr ⟨_, rfl, k.val w (.int _)⟩)
  · -- divmod
    obtain ⟨hk, rfl⟩ := some_ite hf
    obtain ⟨h1, h2⟩ := Bool.and_eq_true_iff.mp hk
    obtain ⟨x, y, rfl, p, q⟩ := pk2 pr
    have ex := p.int
    have ey := q.int
    subst ex ey
    exact call_divmod pins s σ H _ us Q I r ⟨_, _, rfl, ⟨of_decide_eq_true h1, of_decide_eq_true h2⟩, k.tup w (.cons (.int _) (.cons (.int _) .nil))⟩
  · -- isinstance
    obtain ⟨b, hb, rfl⟩ := Option.map_eq_some_iff.mp hf
    obtain ⟨x, y, rfl, p, q⟩ := pk2 pr
    have ey := q.ty
    subst ey
    obtain ⟨u, hu1, hu2⟩ := Option.bind_eq_some_iff.mp hb
    exact call_isi pins s σ H _ us Q I r ⟨x, _, _, _, b, rfl, .ty _, p.ty_is w hu1, kit_ty (kit_tab (tyD_in hu1) hu2), k.val w (.bl _)⟩
  · cases hf
end
end Pv

set_option Elab.async false
set_option linter.all false
set_option maxRecDepth 100000
namespace Pv
open PySem L2 PyProof.Rows

/-- an exception: its class, its own dict -/
inductive XcR (K : PySem.W.Frag) (ec : Nat → Option (Value × List Str)) (g : Gh) (H : Hp) : Value → Option Addr → Xc → Prop where
  | mk {c : Nat} {cv : Value} {fs : List Str} {d : Addr} {vs : List V} {ds : List D} : ec c = some (cv, fs) → H d = some (.xd (fs.zip vs)) → Reps g.ρ g.F vs ds → vs.length = fs.length → g.F d = none → d ∉ g.cp → d ∉ g.ρ → XcR K ec g H cv (some d) ⟨c, ds⟩
  | mk0 {c : Nat} {cv : Value} : ec c = some (cv, []) → XcR K ec g H cv none ⟨c, []⟩

structure Pm where
  K : PySem.W.Frag
  W : WX
  ec : Nat → Option (Value × List Str)

/-- an exception's own dict is new -/
def FrX (H : Hp) (dx : Option Addr) : Prop := ∀ d, dx = some d → H d = none
theorem FrX.back {H H1 : Hp} {g g1 : Gh} {dx : Option Addr} (t : Stp g H g1 H1) (h : FrX H1 dx) : FrX H dx := fun d e => by
  have h1 := h d e
  cases q : H d with
  | none => rfl
  | some o =>
    obtain ⟨o', e'⟩ := t.th d o q
    rw [h1] at e'; cases e'
/-- nothing is raised -/
abbrev Pm.nx (Z : Pm) : Pm := ⟨Z.K, fun _ _ _ _ => False, Z.ec⟩
/-- what follows a run of Pv -/
def Po (Z : Pm) (σ : L2.St) (g : Gh) (H : Hp) {α β : Type} (Rl : Gh → Hp → Hp → β → α → Prop) (r : R α) (Q : β → Hp → Prop) : Prop :=
  match r with
  | .ok a s' => ∀ g' H' b, Stp g H g' H' → Sim Z.K g' s' σ H' → Rl g' H H' b a → Q b H'
  | .ex x s' => ∀ g' H' cls dx, Stp g H g' H' → Sim Z.K g' s' σ H' → XcR Z.K Z.ec g' H' cls dx x → FrX H dx → Z.W cls dx σ H'
  | .no => False
/-- a relation that may be told from an earlier heap -/
def RlS {α β : Type} (Rl : Gh → Hp → Hp → β → α → Prop) : Prop := ∀ g H g1 H1 g' H' b a, Stp g H g1 H1 → Rl g' H1 H' b a → Rl g' H H' b a
section
variable {Z : Pm} {σ : L2.St} {g g1 : Gh} {H H1 : Hp} {α β α' β' : Type} {Rl : Gh → Hp → Hp → β → α → Prop} {Rl' : Gh → Hp → Hp → β' → α' → Prop}
theorem Po.step {r : R α} {Q : β → Hp → Prop} (hs : RlS Rl) (t : Stp g H g1 H1) (h : Po Z σ g H Rl r Q) : Po Z σ g1 H1 Rl r Q := by
  cases r with
  | ok a s' => exact fun g' H' b t' m rl => h g' H' b (t.trans t') m (hs _ _ _ _ _ _ _ _ t rl)
  | ex x s' => exact fun g' H' cls dx t' m rl fx => h g' H' cls dx (t.trans t') m rl (fx.back t)
  | no => exact h
theorem Po.bind {r : R α} {f : α → St → R α'} {Q : β' → Hp → Prop} {Q1 : β → Hp → Prop} (hs : RlS Rl') (h : Po Z σ g H Rl' (r.bind f) Q)
    (k : ∀ b1 H1 g1 s1 a, Stp g H g1 H1 → Sim Z.K g1 s1 σ H1 → Rl g1 H H1 b1 a → Po Z σ g1 H1 Rl' (f a s1) Q → Q1 b1 H1) : Po Z σ g H Rl r Q1 := by
  cases r with
  | ok a s' => exact fun g' H' b t m rl => k b H' g' s' a t m rl (Po.step hs t h)
  | ex x s' => exact h
  | no => exact h
/-- .. the ground as it was -/
theorem Po.bind' {r : R α} {f : α → St → R α'} {Q : β' → Hp → Prop} {Q1 : β → Hp → Prop} (h : Po Z σ g H Rl' (r.bind f) Q)
    (k : ∀ b1 H1 g1 s1 a, r = .ok a s1 → Stp g H g1 H1 → Sim Z.K g1 s1 σ H1 → Rl g1 H H1 b1 a → Po Z σ g H Rl' (f a s1) Q → Q1 b1 H1) : Po Z σ g H Rl r Q1 := by
  cases r with
  | ok a s' => exact fun g' H' b t m rl => k b H' g' s' a rfl t m rl h
  | ex x s' => exact h
  | no => exact h
theorem Po.of {o : Option α} {s : St} {f : α → St → R α'} {Q : β' → Hp → Prop} (h : Po Z σ g H Rl' ((R.of o s).bind f) Q) : ∃ a, o = some a ∧ Po Z σ g H Rl' (f a s) Q := by
  cases o with
  | none => exact False.elim h
  | some a => exact ⟨a, rfl, h⟩
theorem Po.ret {o : Option α} {s : St} {Q : β → Hp → Prop} (h : Po Z σ g H Rl (R.of o s) Q) : ∃ a, o = some a ∧ Po Z σ g H Rl (.ok a s) Q := by
  cases o with
  | none => exact False.elim h
  | some a => exact ⟨a, rfl, h⟩
theorem Po.mono {r : R α} {Q Q' : β → Hp → Prop} (h : Po Z σ g H Rl r Q) (k : ∀ b H', Q b H' → Q' b H') : Po Z σ g H Rl r Q' := by
  cases r with
  | ok a s' => exact fun g' H' b t m rl => k b H' (h g' H' b t m rl)
  | ex x s' => exact h
  | no => exact h
end

/-- where a borrowed value came from -/
def PbI (K : PySem.W.Frag) (σ : L2.St) (sl : List Slot) (v : V) : P → Prop
  | .pb d => (∃ i : Nat, sl[i]? = some (Slot.bo d) ∧ σ[i]? = some (some v)) ∨ ∀ g H, Bo K g H v d
  | _ => True
def RlE (K : PySem.W.Frag) (σ : L2.St) (sl : List Slot) : Gh → Hp → Hp → V → P → Prop := fun g' H H' v p => OpR' K g' H' v p ∧ FrI H v p ∧ PbI K σ sl v p
def RlB : Gh → Hp → Hp → Bool → Bool → Prop := fun _ _ _ b a => b = a
def RlO : Gh → Hp → Hp → Option Int → Option Int → Prop := fun _ _ _ b a => b = a
/-- the places of the new containers among some values -/
def frs (vs : List V) (ps : List P) : List V := (vs.zip ps).filterMap fun x => match x.2 with | .pv _ true => some x.1 | _ => none
inductive OpRs (K : PySem.W.Frag) (g : Gh) (H : Hp) : List V → List P → Prop where
  | nil : OpRs K g H [] []
  | cons {v : V} {p : P} {vs : List V} {ps : List P} : OpR' K g H v p → OpRs K g H vs ps → OpRs K g H (v :: vs) (p :: ps)
inductive PbIs (K : PySem.W.Frag) (σ : L2.St) (sl : List Slot) : List V → List P → Prop where
  | nil : PbIs K σ sl [] []
  | cons {v : V} {p : P} {vs : List V} {ps : List P} : PbI K σ sl v p → PbIs K σ sl vs ps → PbIs K σ sl (v :: vs) (p :: ps)
def RlA (K : PySem.W.Frag) (σ : L2.St) (sl : List Slot) : Gh → Hp → Hp → List V → List P → Prop := fun g' H H' vs ps => OpRs K g' H' vs ps ∧ (∀ v ∈ frs vs ps, ∀ a, v = .ref a → H a = none) ∧ (frs vs ps).Nodup ∧ PbIs K σ sl vs ps
theorem FrI.back {H H1 : Hp} {g g1 : Gh} {v : V} {p : P} (t : Stp g H g1 H1) (h : FrI H1 v p) : FrI H v p := by
  cases p with
  | pv d f =>
    cases f with
    | false => exact trivial
    | true =>
      intro a e
      have h1 : H1 a = none := h a e
      cases q : H a with
      | none => rfl
      | some o =>
        obtain ⟨o', e'⟩ := t.th a o q
        rw [h1] at e'; cases e'
  | _ => exact trivial
theorem rlE {K : PySem.W.Frag} {σ : L2.St} {sl : List Slot} : RlS (RlE K σ sl) := fun _ _ _ _ _ _ _ _ t h => ⟨h.1, h.2.1.back t, h.2.2⟩
theorem rlB : RlS RlB := fun _ _ _ _ _ _ _ _ _ h => h
theorem rlO : RlS RlO := fun _ _ _ _ _ _ _ _ _ h => h
theorem rlA {K : PySem.W.Frag} {σ : L2.St} {sl : List Slot} : RlS (RlA K σ sl) := by
  intro g H g1 H1 g' H' b a t h
  refine ⟨h.1, fun v hv x e => ?_, h.2.2⟩
  have h1 := h.2.1 v hv x e
  cases q : H x with
  | none => rfl
  | some o =>
    obtain ⟨o', e'⟩ := t.th x o q
    rw [h1] at e'; cases e'
theorem OpRs.mono {K : PySem.W.Frag} {g g' : Gh} {H H' : Hp} (t : Stp g H g' H') : ∀ {vs : List V} {ps : List P}, OpRs K g H vs ps → OpRs K g' H' vs ps
  | _, _, .nil => .nil
  | _, _, .cons h r => .cons (h.mono t) (OpRs.mono t r)

def tE (Z : Pm) (C : Cl) (e : E) : TE := fun σ H Q => ∃ g s, Sim Z.K g s σ H ∧ Po Z σ g H (RlE Z.K σ s.sl) (ev C e s) Q
def tT (Z : Pm) (C : Cl) (e : E) : TT := fun σ H Q => ∃ g s, Sim Z.K g s σ H ∧ Po Z σ g H RlB (evT C e s) Q
def tA (Z : Pm) (C : Cl) (es : Es) : TA := fun σ H Q => ∃ g s, Sim Z.K g s σ H ∧ Po Z σ g H (RlA Z.K σ s.sl) (evs C es s) Q
def tO (Z : Pm) (C : Cl) (o : Oe) : TO := fun σ H Q => ∃ g s, Sim Z.K g s σ H ∧ Po Z σ g H RlO (evo C o s) Q
def tTo (Z : Pm) (C : Cl) (o : Oe) : TT := fun σ H Q => ∃ g s, Sim Z.K g s σ H ∧ Po Z σ g H RlB (evTo C o s) Q
theorem PE.im {X : Cx} {e : Expr} {t t' : TE} (h : PE X e t) (k : ∀ σ H Q, t' σ H Q → t σ H Q) : PE X e t' := ⟨fun pins s σ H Q I q => h.run pins s σ H Q I (k σ H Q q)⟩
theorem PT.im {X : Cx} {e : Expr} {t t' : TT} (h : PT X e t) (k : ∀ σ H Q, t' σ H Q → t σ H Q) : PT X e t' := ⟨fun pins s σ H Q I q => h.run pins s σ H Q I (k σ H Q q)⟩
theorem PW.im {X : Cx} {e : Expr} {t t' : TT} (h : PW X e t) (k : ∀ σ H Q, t' σ H Q → t σ H Q) : PW X e t' := ⟨fun wh pins s σ H Q I q => h.run wh pins s σ H Q I (k σ H Q q)⟩
theorem PA.im {X : Cx} {e : List Expr} {t t' : TA} (h : PA X e t) (k : ∀ σ H Q, t' σ H Q → t σ H Q) : PA X e t' := ⟨fun pos pins s σ H Q I q => h.run pos pins s σ H Q I (k σ H Q q)⟩
theorem PO.im {X : Cx} {e : Option Expr} {t t' : TO} (h : PO X e t) (k : ∀ σ H Q, t' σ H Q → t σ H Q) : PO X e t' := ⟨fun pins s σ H Q I q => h.run pins s σ H Q I (k σ H Q q)⟩

section
variable {Z : Pm} {C : Cl} {σ : L2.St} {H : Hp} {sl : List Slot}
/-- an operation's end, by growing alone -/
theorem Po.out {g : Gh} {s : St} {r : D × Bool} {Q : VK} (m : Sim Z.K g s σ H) (h : Po Z σ g H (RlE Z.K σ sl) (.ok (.pv r.1 r.2) s) Q) : Out Z.K g H r Q :=
  fun g' v' H' t o f => h g' H' v' t.stp (m.gro t) ⟨o, f, trivial⟩
theorem Po.bl {g : Gh} {s : St} {b : Bool} {Q : VK} (m : Sim Z.K g s σ H) (h : Po Z σ g H (RlE Z.K σ sl) (.ok (.pv (.bl b) false) s) Q) : Q (.bl b) H :=
  h g H (.bl b) (.refl _ _) m ⟨.va (.bl b), trivial, trivial⟩
end
end Pv

set_option Elab.async false
set_option linter.all false
set_option maxRecDepth 100000
namespace Pv
open PySem

theorem R.inv {α β : Type} {r : R α} {f : α → St → R β} {b : β} {s' : St} (h : r.bind f = .ok b s') : ∃ a s1, r = .ok a s1 ∧ f a s1 = .ok b s' := by
  cases r with
  | ok a s1 => exact ⟨a, s1, rfl, h⟩
  | ex x s => cases h
  | no => cases h
theorem R.of_inv {α : Type} {o : Option α} {s s' : St} {b : α} (h : R.of o s = .ok b s') : o = some b ∧ s' = s := by
  cases o with
  | none => cases h
  | some a => cases h; exact ⟨rfl, rfl⟩
theorem R.ofb {α β : Type} {o : Option α} {s s' : St} {f : α → St → R β} {b : β} (h : (R.of o s).bind f = .ok b s') : ∃ a, o = some a ∧ f a s = .ok b s' := by
  cases o with
  | none => cases h
  | some a => exact ⟨a, rfl, h⟩
theorem noEx_inv {α : Type} {r : R α} {b : α} {s' : St} (h : noEx r = .ok b s') : r = .ok b s' := by
  cases r with
  | ok a s1 => exact h
  | ex x s => cases h
  | no => cases h

/-- what is held or frozen stays so -/
def Hd (s : St) (k : Nat) (d : D) : Prop := s.ce[k]? = some (.he d) ∨ s.ce[k]? = some (.fz d)
def Hl (s s' : St) : Prop := ∀ k d, Hd s k d → Hd s' k d
theorem Hl.refl (s : St) : Hl s s := fun _ _ h => h
theorem Hl.trans {a b c : St} (h : Hl a b) (k : Hl b c) : Hl a c := fun i d x => k i d (h i d x)
theorem Hl.of_ce {s s' : St} (h : s'.ce = s.ce) : Hl s s' := fun k d x => by
  unfold Hd at x ⊢
  rw [h]; exact x
structure Fx (s s' : St) : Prop where
  sl : s'.sl = s.sl
  h : Hl s s'
theorem Fx.refl (s : St) : Fx s s := ⟨rfl, .refl s⟩
theorem Fx.trans {a b c : St} (h : Fx a b) (k : Fx b c) : Fx a c := ⟨k.sl.trans h.sl, h.h.trans k.h⟩

theorem keep_fx {p : P} {s s' : St} {d : D} (h : keep p s = .ok d s') : Fx s s' := by
  cases p with
  | pv d f => cases h; exact .refl _
  | pb d =>
    simp only [keep] at h
    split at h
    · cases h; exact .refl _
    · cases h
  | pc k =>
    simp only [keep] at h
    cases hc : s.ce[k]? with
    | none => rw [hc] at h; cases h
    | some c =>
      rw [hc] at h
      cases h
      have hlt : k < s.ce.length := (List.getElem?_eq_some_iff.mp hc).1
      refine ⟨rfl, fun i d x => ?_⟩
      unfold Hd at x ⊢
      show (s.ce.set k (.fz c.d))[i]? = _ ∨ (s.ce.set k (.fz c.d))[i]? = _
      by_cases e : k = i
      · subst e
        rw [List.getElem?_set_self hlt]
        rw [hc] at x
        rcases x with x | x <;> cases x <;> exact .inr rfl
      · rw [List.getElem?_set_ne e]
        exact x
theorem keeps_fx : ∀ {ps : List P} {s s' : St} {ds : List D}, keeps ps s = .ok ds s' → Fx s s'
  | [], s, s', ds, h => by cases h; exact .refl _
  | p :: ps, s, s', ds, h => by
    obtain ⟨d, s1, h1, h2⟩ := R.inv h
    obtain ⟨ds', s2, h3, h4⟩ := R.inv h2
    cases h4
    exact (keep_fx h1).trans (keeps_fx h3)
theorem hold_fx (p : P) (s : St) : Fx s (hold p s).1 := by
  cases p with
  | pv d f => exact .refl _
  | pb d => exact .refl _
  | pc k =>
    simp only [hold]
    cases hc : s.ce[k]? with
    | none => exact .refl _
    | some c =>
      cases c with
      | he d => exact .refl _
      | fz d => exact .refl _
      | ow d =>
        have hlt : k < s.ce.length := (List.getElem?_eq_some_iff.mp hc).1
        refine ⟨rfl, fun i d' x => ?_⟩
        unfold Hd at x ⊢
        show (s.ce.set k (.he d))[i]? = _ ∨ (s.ce.set k (.he d))[i]? = _
        by_cases e : k = i
        · subst e
          rw [hc] at x
          rcases x with x | x <;> cases x
        · rw [List.getElem?_set_ne e]
          exact x
theorem letGo_sl (o : Option Nat) (s : St) : (letGo o s).sl = s.sl := by
  cases o with
  | none => rfl
  | some k =>
    simp only [letGo]
    cases s.ce[k]? with
    | none => rfl
    | some c => cases c <;> rfl
theorem letGo_sls (l : List (Option Nat)) : ∀ s : St, (l.foldl (fun s o => letGo o s) s).sl = s.sl := by
  induction l with
  | nil => intro s; rfl
  | cons o l ih => intro s; exact (ih _).trans (letGo_sl o s)
/-- what may be let go was one's own -/
def Own (s : St) (o : Option Nat) : Prop := ∀ k, o = some k → ∀ d, ¬ Hd s k d
theorem hold_own (p : P) (s : St) : Own s (hold p s).2 := by
  intro k e d x
  cases p with
  | pv d f => cases e
  | pb d => cases e
  | pc j =>
    simp only [hold] at e
    cases hc : s.ce[j]? with
    | none => rw [hc] at e; cases e
    | some c =>
      rw [hc] at e
      cases c with
      | he d => cases e
      | fz d => cases e
      | ow d' =>
        cases e
        unfold Hd at x
        rw [hc] at x
        rcases x with x | x <;> cases x
theorem letGo_hl {o : Option Nat} {s0 s : St} (ow : Own s0 o) (h : Hl s0 s) : Hl s0 (letGo o s) := by
  cases o with
  | none => exact h
  | some k =>
    intro i d x
    have y := h i d x
    by_cases e : k = i
    · subst e; exact absurd x (ow k rfl d)
    · cases hc : s.ce[k]? with
      | none => simp only [letGo, hc]; exact y
      | some c =>
        cases c with
        | ow d => simp only [letGo, hc]; exact y
        | fz d => simp only [letGo, hc]; exact y
        | he d' =>
          simp only [letGo, hc]
          unfold Hd at y ⊢
          show (s.ce.set k (.ow d'))[i]? = _ ∨ (s.ce.set k (.ow d'))[i]? = _
          rw [List.getElem?_set_ne e]
          exact y
theorem letGo_hls {s0 : St} : ∀ (l : List (Option Nat)) (s : St), (∀ o ∈ l, Own s0 o) → Hl s0 s → Hl s0 (l.foldl (fun s o => letGo o s) s)
  | [], s, _, h => h
  | o :: l, s, ow, h => letGo_hls l (letGo o s) (fun o' m => ow o' (List.mem_cons_of_mem _ m)) (letGo_hl (ow o List.mem_cons_self) h)

/-! calls -/
theorem backs_keep {ce : List Cel} {i : Nat} : ∀ (to : List (Option Nat)) (cs : List Cel) (ce : List Cel), some i ∉ to → (backs to cs ce)[i]? = ce[i]?
  | [], cs, ce, _ => by unfold backs; rfl
  | none :: r, [], ce, _ => by unfold backs; rfl
  | some k :: r, [], ce, _ => by unfold backs; rfl
  | none :: r, c :: cs, ce, h => by
    simp only [backs]
    exact backs_keep (ce := ce) r cs ce fun m => h (List.mem_cons_of_mem _ m)
  | some k :: r, c :: cs, ce, h => by
    simp only [backs]
    rw [backs_keep (ce := ce) r cs _ fun m => h (List.mem_cons_of_mem _ m)]
    exact List.getElem?_set_ne fun e => h (by rw [e]; exact List.mem_cons_self)
def ToOk (s : St) (b : Bd) : Prop := ∀ i, some i ∈ b.to → ∃ d, s.ce[i]? = some (.ow d)
theorem bind1_to {m : Bool} {p : P} {s : St} {b b' : Bd} (h : bind1 m p s b = some b') (t : ToOk s b) : ToOk s b' := by
  cases p with
  | pv d f =>
    cases f with
    | true =>
      cases h
      intro i m
      rcases List.mem_append.mp m with m | m
      · exact t i m
      · simp at m
    | false => cases h; exact t
  | pb d =>
    simp only [bind1] at h
    split at h
    · cases h; exact t
    · split at h
      · cases h; exact t
      · cases h
  | pc k =>
    simp only [bind1] at h
    cases hc : s.ce[k]? with
    | none => rw [hc] at h; cases h
    | some c =>
      rw [hc] at h
      cases c with
      | fz d => cases h; exact t
      | he d =>
        simp only at h
        split at h
        · cases h; exact t
        · cases h
      | ow d =>
        simp only at h
        split at h
        · split at h
          · cases h
          · cases h; exact t
        · split at h
          · cases h
          · cases h
            intro i m
            rcases List.mem_append.mp m with m | m
            · exact t i m
            · have e : i = k := by simpa using m
              subst e
              exact ⟨d, hc⟩
theorem binds_to : ∀ {ms : List Bool} {ps : List P} {s : St} {b b' : Bd}, binds ms ps s b = some b' → ToOk s b → ToOk s b'
  | [], [], s, b, b', h, t => by cases h; exact t
  | _ :: _, [], s, b, b', h, t => by cases h; exact t
  | [], p :: ps, s, b, b', h, t => by
    simp only [binds] at h
    cases e : bind1 false p s b with
    | none => rw [e] at h; cases h
    | some x => rw [e] at h; exact binds_to h (bind1_to e t)
  | m :: ms, p :: ps, s, b, b', h, t => by
    simp only [binds] at h
    cases e : bind1 m p s b with
    | none => rw [e] at h; cases h
    | some x => rw [e] at h; exact binds_to h (bind1_to e t)
theorem back_hl {s : St} {b : Bd} (t : ToOk s b) (cs : List Cel) (ob : List Ob) : Fx s { s with ce := backs b.to cs s.ce, ob := ob } := by
  refine ⟨rfl, fun i d x => ?_⟩
  have : some i ∉ b.to := fun m => by
    obtain ⟨d', e⟩ := t i m
    unfold Hd at x
    rw [e] at x
    rcases x with x | x <;> cases x
  unfold Hd at x ⊢
  show (backs b.to cs s.ce)[i]? = _ ∨ (backs b.to cs s.ce)[i]? = _
  rw [backs_keep (ce := s.ce) _ _ _ this]
  exact x
theorem call_fx {C : Cl} {f : Nat} {ps : List P} {s s' : St} {p : P} (h : callF C f ps s = .ok p s') : Fx s s' := by
  unfold callF at h
  cases e : binds (C.mo f) ps s ⟨[], [], [], []⟩ with
  | none => rw [e] at h; cases h
  | some b =>
    rw [e] at h
    have t : ToOk s b := binds_to e fun i m => by simp at m
    have h' : (match C.fn f b.sl b.ce s.ob with | .ok d fr ce ob => (R.ok (.pv d fr) { s with ce := backs b.to ce s.ce, ob := ob } : R P) | .ex x ce ob => .ex x { s with ce := backs b.to ce s.ce, ob := ob } | .no => .no) = .ok p s' := h
    cases q : C.fn f b.sl b.ce s.ob with
    | no => rw [q] at h'; cases h'
    | ex x ce ob => rw [q] at h'; cases h'
    | ok d fr ce ob =>
      rw [q] at h'
      cases h'
      exact back_hl t ce ob

theorem lc_hl {f : D → St → R (Option D)} (hf : ∀ d s o s', f d s = .ok o s' → Hl s s') : ∀ {ds : List D} {s s' : St} {r : List D}, lcLoop f ds s = .ok r s' → Hl s s'
  | [], s, s', r, h => by cases h; exact .refl _
  | d :: ds, s, s', r, h => by
    obtain ⟨o, s1, h1, h2⟩ := R.inv h
    obtain ⟨rs, s2, h3, h4⟩ := R.inv h2
    cases h4
    exact (hf _ _ _ _ h1).trans (lc_hl hf h3)
theorem dc_hl {f : D → St → R (Option (D × D))} (hf : ∀ d s o s', f d s = .ok o s' → Hl s s') : ∀ {ds : List D} {acc : List D × List D} {s s' : St} {r : List D × List D}, dcLoop f ds acc s = .ok r s' → Hl s s'
  | [], acc, s, s', r, h => by cases h; exact .refl _
  | d :: ds, acc, s, s', r, h => by
    obtain ⟨o, s1, h1, h2⟩ := R.inv h
    cases o with
    | none => exact (hf _ _ _ _ h1).trans (dc_hl hf h2)
    | some kv =>
      simp only at h2
      split at h2
      · exact (hf _ _ _ _ h1).trans (dc_hl hf h2)
      · cases h2
theorem putNm_hl {i : Nat} {p : P} {s s' : St} {u : Unit} (h : putNm i p s = .ok u s') : Hl s s' := by
  cases p with
  | pb d => cases h; exact .of_ce rfl
  | pc d => cases h; exact .of_ce rfl
  | pv d f =>
    cases f with
    | false => cases h; exact .of_ce rfl
    | true =>
      cases h
      intro k d' x
      unfold Hd at x ⊢
      have hlt : k < s.ce.length := by
        rcases x with x | x <;> exact (List.getElem?_eq_some_iff.mp x).1
      show (s.ce ++ [_])[k]? = _ ∨ (s.ce ++ [_])[k]? = _
      rw [List.getElem?_append_left hlt]
      exact x
theorem set_ow_fx {s : St} {k : Nat} {x y : D} (hc : s.ce[k]? = some (.ow x)) : Fx s { s with ce := s.ce.set k (.ow y) } := by
  refine ⟨rfl, fun i d z => ?_⟩
  unfold Hd at z ⊢
  have e : k ≠ i := fun e => by
    subst e
    rw [hc] at z
    rcases z with z | z <;> cases z
  show (s.ce.set k _)[i]? = _ ∨ (s.ce.set k _)[i]? = _
  rw [List.getElem?_set_ne e]
  exact z
theorem putAt_fx {o : P} {i v : D} {s s' : St} {u : Unit} (h : putAt o i v s = .ok u s') : Fx s s' := by
  cases o with
  | pb d => cases h
  | pv d f => cases h
  | pc k =>
    have h' : (match s.ce[k]? with | some (.ow x) => (match setD x i v with | some y => (R.ok () { s with ce := s.ce.set k (.ow y) } : R Unit) | none => .no) | _ => .no) = .ok u s' := h
    cases hc : s.ce[k]? with
    | none => rw [hc] at h'; cases h'
    | some c =>
      rw [hc] at h'
      cases c with
      | he d => cases h'
      | fz d => cases h'
      | ow x =>
        have h'' : (match setD x i v with | some y => (R.ok () { s with ce := s.ce.set k (.ow y) } : R Unit) | none => .no) = .ok u s' := h'
        cases e : setD x i v with
        | none => rw [e] at h''; cases h''
        | some y =>
          rw [e] at h''
          cases h''
          exact set_ow_fx hc
theorem doMut_fx {m : Mt} {o : P} {ds : List D} {s s' : St} {p : P} (h : doMut m o ds s = .ok p s') : Fx s s' := by
  cases o with
  | pb d => cases h
  | pv d f => cases h
  | pc k =>
    have h' : (match s.ce[k]? with | some (.ow x) => (match mutM m x ds with | some (y, r) => (R.ok (.pv r false) { s with ce := s.ce.set k (.ow y) } : R P) | none => .no) | _ => .no) = .ok p s' := h
    cases hc : s.ce[k]? with
    | none => rw [hc] at h'; cases h'
    | some c =>
      rw [hc] at h'
      cases c with
      | he d => cases h'
      | fz d => cases h'
      | ow x =>
        have h'' : (match mutM m x ds with | some (y, r) => (R.ok (.pv r false) { s with ce := s.ce.set k (.ow y) } : R P) | none => .no) = .ok p s' := h'
        cases e : mutM m x ds with
        | none => rw [e] at h''; cases h''
        | some y =>
          rw [e] at h''
          cases h''
          exact set_ow_fx hc
def FxI (s s' : St) (x : List D × List (Option Nat)) : Prop := Fx s s' ∧ ∀ o ∈ x.2, Own s o

mutual
theorem ev_fx {C : Cl} : ∀ (e : E) {s s' : St} {p : P}, ev C e s = .ok p s' → Fx s s'
  | .lit d, s, s', p, h => by cases h; exact .refl _
  | .loc i, s, s', p, h => by
    simp only [ev] at h
    split at h <;> first | (cases h; exact .refl _) | cases h
  | .gl n, s, s', p, h => by
    simp only [ev] at h
    split at h <;> first | (cases h; exact .refl _) | cases h
  | .bin o a b, s, s', p, h => by
    obtain ⟨p1, s1, h1, h⟩ := R.inv h
    obtain ⟨p2, s2, h2, h⟩ := R.inv h
    obtain ⟨_, rfl⟩ := R.of_inv h
    exact (ev_fx a h1).trans (ev_fx b h2)
  | .neg a, s, s', p, h => by
    obtain ⟨p1, s1, h1, h⟩ := R.inv h
    obtain ⟨_, rfl⟩ := R.of_inv h
    exact ev_fx a h1
  | .cmp o a b, s, s', p, h => by
    obtain ⟨p1, s1, h1, h⟩ := R.inv h
    obtain ⟨p2, s2, h2, h⟩ := R.inv h
    obtain ⟨_, rfl⟩ := R.of_inv h
    exact (ev_fx a h1).trans (ev_fx b h2)
  | .chn o o' a b c, s, s', p, h => by
    obtain ⟨p1, s1, h1, h⟩ := R.inv h
    obtain ⟨p2, s2, h2, h⟩ := R.inv h
    obtain ⟨k, s3, h3, h⟩ := R.inv h
    obtain ⟨_, rfl⟩ := R.of_inv h3
    refine ((ev_fx a h1).trans (ev_fx b h2)).trans ?_
    cases k with
    | true =>
      rw [if_pos rfl] at h
      obtain ⟨p3, s4, h4, h⟩ := R.inv h
      obtain ⟨_, rfl⟩ := R.of_inv h
      exact ev_fx c h4
    | false =>
      rw [if_neg Bool.false_ne_true] at h
      cases h
      exact .refl _
  | .and a b, s, s', p, h => by
    obtain ⟨p1, s1, h1, h⟩ := R.inv h
    obtain ⟨k, s3, h3, h⟩ := R.inv h
    obtain ⟨_, rfl⟩ := R.of_inv h3
    refine (ev_fx a h1).trans ?_
    cases k with
    | true => rw [if_pos rfl] at h; exact ev_fx b h
    | false => rw [if_neg Bool.false_ne_true] at h; cases h; exact .refl _
  | .or a b, s, s', p, h => by
    obtain ⟨p1, s1, h1, h⟩ := R.inv h
    obtain ⟨k, s3, h3, h⟩ := R.inv h
    obtain ⟨_, rfl⟩ := R.of_inv h3
    refine (ev_fx a h1).trans ?_
    cases k with
    | false => rw [if_neg Bool.false_ne_true] at h; exact ev_fx b h
    | true => rw [if_pos rfl] at h; cases h; exact .refl _
  | .not a, s, s', p, h => by
    obtain ⟨p1, s1, h1, h⟩ := R.inv h
    obtain ⟨_, rfl⟩ := R.of_inv h
    exact ev_fx a h1
  | .ife t a b, s, s', p, h => by
    obtain ⟨k, s1, h1, h⟩ := R.inv h
    refine (evT_fx t h1).trans ?_
    cases k with
    | true => rw [if_pos rfl] at h; exact ev_fx a h
    | false => rw [if_neg Bool.false_ne_true] at h; exact ev_fx b h
  | .tup es, s, s', p, h => by
    obtain ⟨ps, s1, h1, h⟩ := R.inv h
    obtain ⟨ds, s2, h2, h⟩ := R.inv h
    split at h
    · cases h; exact (evs_fx es h1).trans (keeps_fx h2)
    · cases h
  | .lst es, s, s', p, h => by
    obtain ⟨ps, s1, h1, h⟩ := R.inv h
    obtain ⟨ds, s2, h2, h⟩ := R.inv h
    split at h
    · cases h; exact (evs_fx es h1).trans (keeps_fx h2)
    · cases h
  | .dnw, s, s', p, h => by cases h; exact .refl _
  | .idx a b, s, s', p, h => by
    obtain ⟨p1, s1, h1, h⟩ := R.inv h
    obtain ⟨p2, s2, h2, h⟩ := R.inv h
    obtain ⟨_, rfl⟩ := R.of_inv h
    exact (ev_fx a h1).trans (ev_fx b h2)
  | .slc a lo hi, s, s', p, h => by
    obtain ⟨p1, s1, h1, h⟩ := R.inv h
    obtain ⟨p2, s2, h2, h⟩ := R.inv h
    obtain ⟨p3, s3, h3, h⟩ := R.inv h
    obtain ⟨_, rfl⟩ := R.of_inv h
    exact ((ev_fx a h1).trans (evo_fx lo h2)).trans (evo_fx hi h3)
  | .rev a, s, s', p, h => by
    obtain ⟨p1, s1, h1, h⟩ := R.inv h
    obtain ⟨_, rfl⟩ := R.of_inv h
    exact ev_fx a h1
  | .bi f es, s, s', p, h => by
    obtain ⟨p1, s1, h1, h⟩ := R.inv h
    obtain ⟨_, rfl⟩ := R.of_inv h
    exact evs_fx es h1
  | .call f es, s, s', p, h => by
    obtain ⟨p1, s1, h1, h⟩ := R.inv h
    exact (evs_fx es h1).trans (call_fx h)
  | .mth m o es, s, s', p, h => by
    simp only [ev] at h
    obtain ⟨p1, s1, h1, ha⟩ := R.inv h
    obtain ⟨_, s2, h2, hb⟩ := R.inv ha
    obtain ⟨_, e2⟩ := R.of_inv h2
    subst e2
    obtain ⟨ps, s3, h3, h⟩ := R.inv hb
    have fo := ev_fx o h1
    refine (fo.trans (evs_fx es h3)).trans ?_
    split at h
    · obtain ⟨ds, s4, h4, h⟩ := R.inv h
      exact (keeps_fx h4).trans (doMut_fx h)
    · obtain ⟨_, rfl⟩ := R.of_inv h
      exact .refl _
  | .lc t it c e own, s, s', p, h => by
    obtain ⟨x, s1, h1, h⟩ := R.inv h
    obtain ⟨ys, s2, h2, h⟩ := R.inv h
    have h2 := noEx_inv h2
    obtain ⟨f1, ow⟩ := evIt_fx it h1
    have hl : Hl s1 s2 := lc_hl (fun d s o s' h => by
      obtain ⟨_, t1, k1, h⟩ := R.inv h
      obtain ⟨b, t2, k2, h⟩ := R.inv h
      refine (((Hl.of_ce (s' := { s with sl := wipes s1.sl own }) rfl).trans (asD_hl t k1)).trans (evTo_fx c k2).h).trans ?_
      cases b with
      | false => rw [if_neg Bool.false_ne_true] at h; cases h; exact .refl _
      | true =>
        rw [if_pos rfl] at h
        obtain ⟨p', t3, k3, h⟩ := R.inv h
        obtain ⟨y, t4, k4, h⟩ := R.inv h
        cases h
        exact (ev_fx e k3).h.trans (keep_fx k4).h) h2
    split at h
    · cases h
      exact ⟨(letGo_sls _ _).trans f1.sl, letGo_hls _ _ ow (f1.h.trans (hl.trans (.of_ce rfl)))⟩
    · cases h
  | .dc t it c k v own, s, s', p, h => by
    obtain ⟨x, s1, h1, h⟩ := R.inv h
    obtain ⟨ys, s2, h2, h⟩ := R.inv h
    have h2 := noEx_inv h2
    obtain ⟨f1, ow⟩ := evIt_fx it h1
    have hl : Hl s1 s2 := dc_hl (fun d s o s' h => by
      obtain ⟨_, t1, k1, h⟩ := R.inv h
      obtain ⟨b, t2, k2, h⟩ := R.inv h
      refine (((Hl.of_ce (s' := { s with sl := wipes s1.sl own }) rfl).trans (asD_hl t k1)).trans (evTo_fx c k2).h).trans ?_
      cases b with
      | false => rw [if_neg Bool.false_ne_true] at h; cases h; exact .refl _
      | true =>
        rw [if_pos rfl] at h
        obtain ⟨p, t2, k2, h⟩ := R.inv h
        obtain ⟨q, t3, k3, h⟩ := R.inv h
        obtain ⟨z, t4, k4, h⟩ := R.inv h
        obtain ⟨_, rfl⟩ := R.of_inv h
        exact ((ev_fx k k2).h.trans (ev_fx v k3).h).trans (keep_fx k4).h) h2
    cases h
    exact ⟨(letGo_sls _ _).trans f1.sl, letGo_hls _ _ ow (f1.h.trans (hl.trans (.of_ce rfl)))⟩
  | .rg1 t a, s, s', p, h => by
    obtain ⟨p1, s1, h1, h⟩ := R.inv h
    obtain ⟨_, rfl⟩ := R.of_inv h
    exact ev_fx a h1
  | .rg2 t a b, s, s', p, h => by
    obtain ⟨p1, s1, h1, h⟩ := R.inv h
    obtain ⟨p2, s2, h2, h⟩ := R.inv h
    obtain ⟨_, rfl⟩ := R.of_inv h
    exact (ev_fx a h1).trans (ev_fx b h2)
theorem evT_fx {C : Cl} : ∀ (e : E) {s s' : St} {p : Bool}, evT C e s = .ok p s' → Fx s s'
  | .and a b, s, s', p, h => by
    obtain ⟨k, s1, h1, h⟩ := R.inv h
    refine (evT_fx a h1).trans ?_
    cases k with
    | true => rw [if_pos rfl] at h; exact evT_fx b h
    | false => rw [if_neg Bool.false_ne_true] at h; cases h; exact .refl _
  | .or a b, s, s', p, h => by
    obtain ⟨k, s1, h1, h⟩ := R.inv h
    refine (evT_fx a h1).trans ?_
    cases k with
    | false => rw [if_neg Bool.false_ne_true] at h; exact evT_fx b h
    | true => rw [if_pos rfl] at h; cases h; exact .refl _
  | .not a, s, s', p, h => by
    obtain ⟨k, s1, h1, h⟩ := R.inv h
    cases h
    exact evT_fx a h1
  | .cmp o a b, s, s', p, h => by
    obtain ⟨p1, s1, h1, h⟩ := R.inv h
    obtain ⟨p2, s2, h2, h⟩ := R.inv h
    obtain ⟨_, rfl⟩ := R.of_inv h
    exact (ev_fx a h1).trans (ev_fx b h2)
  | .chn o o' a b c, s, s', p, h => by
    obtain ⟨p1, s1, h1, h⟩ := R.inv h
    obtain ⟨p2, s2, h2, h⟩ := R.inv h
    obtain ⟨k, s3, h3, h⟩ := R.inv h
    obtain ⟨_, rfl⟩ := R.of_inv h3
    refine ((ev_fx a h1).trans (ev_fx b h2)).trans ?_
    cases k with
    | true =>
      rw [if_pos rfl] at h
      obtain ⟨p3, s4, h4, h⟩ := R.inv h
      obtain ⟨_, rfl⟩ := R.of_inv h
      exact ev_fx c h4
    | false =>
      rw [if_neg Bool.false_ne_true] at h
      cases h
      exact .refl _
  | .call f es, s, s', p, h => by
    obtain ⟨p1, s1, h1, h⟩ := R.inv h
    obtain ⟨p2, s2, h2, h⟩ := R.inv h
    obtain ⟨_, rfl⟩ := R.of_inv h
    exact (evs_fx es h1).trans (call_fx h2)
  | .bi f es, s, s', p, h => by
    obtain ⟨p1, s1, h1, h⟩ := R.inv h
    obtain ⟨_, rfl⟩ := R.of_inv h
    exact evs_fx es h1
  | .loc i, s, s', p, h => by
    simp only [evT] at h
    split at h <;> first | (obtain ⟨_, rfl⟩ := R.of_inv h; exact .refl _) | cases h
  | .lit d, s, s', p, h => by
    obtain ⟨_, rfl⟩ := R.of_inv h
    exact .refl _
  | .gl _, _, _, _, h => by cases h
  | .bin _ _ _, _, _, _, h => by cases h
  | .neg _, _, _, _, h => by cases h
  | .ife _ _ _, _, _, _, h => by cases h
  | .tup _, _, _, _, h => by cases h
  | .lst _, _, _, _, h => by cases h
  | .dnw, _, _, _, h => by cases h
  | .idx _ _, _, _, _, h => by cases h
  | .slc _ _ _, _, _, _, h => by cases h
  | .rev _, _, _, _, h => by cases h
  | .mth _ _ _, _, _, _, h => by cases h
  | .lc _ _ _ _ _, _, _, _, h => by cases h
  | .dc _ _ _ _ _ _, _, _, _, h => by cases h
  | .rg1 _ _, _, _, _, h => by cases h
  | .rg2 _ _ _, _, _, _, h => by cases h
theorem evs_fx {C : Cl} : ∀ (e : Es) {s s' : St} {p : List P}, evs C e s = .ok p s' → Fx s s'
  | .nil, s, s', p, h => by cases h; exact .refl _
  | .cons e r, s, s', p, h => by
    obtain ⟨p1, s1, h1, h⟩ := R.inv h
    obtain ⟨p2, s2, h2, h⟩ := R.inv h
    cases h
    exact (ev_fx e h1).trans (evs_fx r h2)
theorem evo_fx {C : Cl} : ∀ (e : Oe) {s s' : St} {p : Option Int}, evo C e s = .ok p s' → Fx s s'
  | .no, s, s', p, h => by cases h; exact .refl _
  | .so e, s, s', p, h => by
    obtain ⟨p1, s1, h1, h⟩ := R.inv h
    obtain ⟨_, rfl⟩ := R.of_inv h
    exact ev_fx e h1
theorem evTo_fx {C : Cl} : ∀ (e : Oe) {s s' : St} {p : Bool}, evTo C e s = .ok p s' → Fx s s'
  | .no, s, s', p, h => by cases h; exact .refl _
  | .so e, s, s', p, h => evT_fx e h
theorem evIt_fx {C : Cl} : ∀ (e : It) {s s' : St} {p : List D × List (Option Nat)}, evIt C e s = .ok p s' → FxI s s' p
  | .e a, s, s', p, h => by
    obtain ⟨p1, s1, h1, h⟩ := R.inv h
    obtain ⟨ds, h2, h⟩ := R.ofb h
    cases h
    have f := ev_fx a h1
    refine ⟨f.trans (hold_fx _ _), fun o m => ?_⟩
    have e : o = (hold p1 s1).2 := by simpa using m
    subst e
    exact fun k e d x => hold_own p1 s1 k e d (f.h k d x)
  | .rng es, s, s', p, h => by
    obtain ⟨p1, s1, h1, h⟩ := R.inv h
    obtain ⟨ds, h2, h⟩ := R.ofb h
    cases h
    exact ⟨evs_fx es h1, fun o m => by simp at m⟩
  | .enum a, s, s', p, h => by
    obtain ⟨p1, s1, h1, h⟩ := R.inv h
    obtain ⟨ds, h2, h⟩ := R.ofb h
    cases h
    have f := ev_fx a h1
    refine ⟨f.trans (hold_fx _ _), fun o m => ?_⟩
    have e : o = (hold p1 s1).2 := by simpa using m
    subst e
    exact fun k e d x => hold_own p1 s1 k e d (f.h k d x)
  | .zip a b, s, s', p, h => by
    obtain ⟨p1, s1, h1, h⟩ := R.inv h
    obtain ⟨p2, s2, h2, h⟩ := R.inv h
    obtain ⟨ds, h3, h⟩ := R.ofb h
    cases h
    have f := (ev_fx a h1).trans (ev_fx b h2)
    have f2 := f.trans (hold_fx p1 s2)
    refine ⟨f2.trans (hold_fx _ _), fun o m => ?_⟩
    have e : o = (hold p1 s2).2 ∨ o = (hold p2 (hold p1 s2).1).2 := by simpa using m
    rcases e with e | e
    · subst e
      exact fun k e d x => hold_own p1 s2 k e d (f.h k d x)
    · subst e
      exact fun k e d x => hold_own p2 _ k e d (f2.h k d x)
theorem asD_hl {C : Cl} : ∀ (t : T) {d : D} {s s' : St} {u : Unit}, asD C t d s = .ok u s' → Hl s s'
  | .nm i, d, s, s', u, h => by
    simp only [asD] at h
    exact putNm_hl h
  | .sub o i, d, s, s', u, h => by
    simp only [asD] at h
    obtain ⟨p1, s1, h1, h⟩ := R.inv h
    obtain ⟨p2, s2, h2, h⟩ := R.inv h
    obtain ⟨k, h3, h⟩ := R.ofb h
    exact ((ev_fx o h1).h.trans (ev_fx i h2).h).trans (putAt_fx h).h
  | .tup ts, d, s, s', u, h => by
    simp only [asD] at h
    split at h
    · exact asDs_hl ts h
    · exact asDs_hl ts h
    · cases h
theorem asDs_hl {C : Cl} : ∀ (t : Ts) {d : List D} {s s' : St} {u : Unit}, asDs C t d s = .ok u s' → Hl s s'
  | .nil, [], s, s', u, h => by cases h; exact .refl _
  | .nil, _ :: _, s, s', u, h => by cases h
  | .cons t r, [], s, s', u, h => by cases h
  | .cons t r, d :: ds, s, s', u, h => by
    obtain ⟨_, s1, h1, h⟩ := R.inv h
    exact (asD_hl t h1).trans (asDs_hl r h)
end
end Pv

set_option Elab.async false
set_option linter.all false
set_option maxRecDepth 100000
namespace Pv
open PySem L2 PyProof.Rows
section
variable {K : PySem.W.Frag} {g g0 g1 : Gh} {H H0 H1 : Hp} {s s0 s1 : St} {σ : L2.St} {v : V} {d : D}

theorem isC_scal {d : D} (c : isC d = true) (s : scal d = true) : False := by
  cases d with
  | lst _ => exact nomatch s
  | dct _ _ => exact nomatch s
  | st _ => exact nomatch s
  | _ => exact nomatch c
/-- an object is known not to change any more -/
def Gh.fz (g : Gh) (a : Addr) (o : HO) : Gh := { g with F := upd g.F a o }
theorem fz_F {a : Addr} {o : HO} (hF : g.F a = none) : ExH g.F (g.fz a o).F := ExH.upd hF
theorem SimC.fz {ce ce' : List Cel} {ob : List Ob} {a : Addr} {o : HO} (m : SimC g ce ob H) (h : H a = some o) (c : isC d = true) (r : RepO g.ρ g.F o d) (hF : g.F a = none) (hl : ce'.length = ce.length)
    (hc : ∀ (k : Nat) (x : Cel) (b : Addr), ce'[k]? = some x → g.cp[k]? = some b → (b ≠ a ∧ ce[k]? = some x) ∨ (b = a ∧ x = .fz d)) : SimC (g.fz a o) ce' ob H where
  ex := fun b u e => by
    have e : upd g.F a o b = some u := e
    by_cases q : b = a
    · subst q
      rw [upd_same] at e
      cases e
      exact h
    · rw [upd_ne q] at e
      exact m.ex _ _ e
  cn := m.cn.trans hl.symm
  cel := fun k x b e1 e2 => by
    have e2 : g.cp[k]? = some b := e2
    rcases hc k x b e1 e2 with ⟨q, e⟩ | ⟨q, e⟩
    · have w := m.cel k x b e e2
      have n : (g.fz a o).F b = g.F b := upd_ne q
      cases x with
      | ow y =>
        obtain ⟨w1, w2, u, w3, w4, w5⟩ := w
        exact ⟨w1, n.trans w2, u, w3, w4, w5.mono (.refl _) (fz_F hF)⟩
      | he y =>
        obtain ⟨w1, w2, u, w3, w4, w5⟩ := w
        exact ⟨w1, n.trans w2, u, w3, w4, w5.mono (.refl _) (fz_F hF)⟩
      | fz y => exact Rep.mono (.refl _) (fz_F hF) w
    · subst q e
      exact .con c (show upd g.F b o b = some o from upd_same) (r.mono (.refl _) (fz_F hF))
  cnd := m.cnd
  ρF := fun b z => by
    have z : b ∈ g.ρ := z
    rw [m.ob.2] at z; cases z
  ρc := fun b z => by
    have z : b ∈ g.ρ := z
    rw [m.ob.2] at z; cases z
  ob := m.ob
theorem Stp.fz {a : Addr} {o : HO} (t : Stp g0 H0 g H) (hF : g.F a = none) (h0 : H0 a = none ∨ a ∈ g.cp) : Stp g0 H0 (g.fz a o) H where
  ρ := t.ρ
  F := t.F.trans (fz_F hF)
  cp := t.cp
  fr := t.fr
  th := t.th
  nF := fun b u e => by
    have e : upd g.F a o b = some u := e
    by_cases q : b = a
    · subst q
      rcases h0 with h0 | h0
      · exact .inr (.inl h0)
      · rcases t.nc b h0 with z | z
        · exact .inr (.inr z)
        · exact .inr (.inl z)
    · rw [upd_ne q] at e
      exact t.nF b u e
  nc := t.nc
  nρ := t.nρ
/-- the slots from the ground -/
theorem Sim.of0 {ce' : List Cel} {ob' : List Ob} (m0 : Sim K g0 s0 σ H0) (t : Stp g0 H0 g1 H) (c : SimC g1 ce' ob' H) : Sim K g1 ⟨s0.sl, ce', ob'⟩ σ H :=
  ⟨c, m0.len, fun i x e => (m0.slot i x e).mono t⟩

/-- what is left of the operands when something is frozen -/
structure Fr1 (g g' : Gh) (a : Addr) : Prop where
  ρ : g'.ρ = g.ρ
  cp : g'.cp = g.cp
  F : ExH g.F g'.F
  nF : ∀ b, b ≠ a → g.F b = none → g'.F b = none
theorem OpR'.fz {p : P} {g' : Gh} {a : Addr} (f : Fr1 g g' a) (h : OpR' K g H v p) (hn : v ≠ .ref a ∨ (∃ k, p = .pc k) ∨ (∃ d, p = .pv d false) ∨ ∃ d, p = .pb d ∧ scal d = true) : OpR' K g' H v p := by
  have hρ : PreL g.ρ g'.ρ := by rw [f.ρ]; exact .refl _
  cases h with
  | va r => exact .va (r.mono hρ f.F)
  | fr c h m r hF hc hp =>
    refine .fr c h m (r.mono hρ f.F) (f.nF _ (fun e => ?_) hF) (by rw [f.cp]; exact hc) (by rw [f.ρ]; exact hp)
    subst e
    rcases hn with z | ⟨k, z⟩ | ⟨k, z⟩ | ⟨k, z, _⟩
    · exact z rfl
    · cases z
    · cases z
    · cases z
  | ce h => exact .ce (by rw [f.cp]; exact h)
  | bo b =>
    refine .bo ?_
    cases b with
    | rep r => exact .rep (r.mono hρ f.F)
    | con c h r hF hc hp =>
      refine .con c h (r.mono hρ f.F) (f.nF _ (fun e => ?_) hF) (by rw [f.cp]; exact hc) (by rw [f.ρ]; exact hp)
      subst e
      rcases hn with z | ⟨k, z⟩ | ⟨k, z⟩ | ⟨k, z, sc⟩
      · exact z rfl
      · cases z
      · cases z
      · cases z
        exact (isC_scal c sc).elim
    | wr w hs r => exact .wr w hs (r.mono hρ f.F)
    | ws w hs r => exact .ws w hs (r.mono hρ f.F)
theorem Pk.fz {g' : Gh} {a : Addr} (f : Fr1 g g' a) (h : Pk K g H v d) : Pk K g' H v d := by
  have hρ : PreL g.ρ g'.ρ := by rw [f.ρ]; exact .refl _
  cases h with
  | rep r => exact .rep (r.mono hρ f.F)
  | con c h r => exact .con c h (r.mono hρ f.F)
  | wr w hs r => exact .wr w hs (r.mono hρ f.F)
  | ws w hs r => exact .ws w hs (r.mono hρ f.F)
theorem fz_fr1 {a : Addr} {o : HO} (hF : g.F a = none) : Fr1 g (g.fz a o) a := ⟨rfl, rfl, fz_F hF, fun b n e => (upd_ne n).trans e⟩
theorem Fr1.refl (g : Gh) (a : Addr) : Fr1 g g a := ⟨rfl, rfl, .refl _, fun _ _ h => h⟩
theorem rep_scals {ρ F} (h : Pk K g H v d) (sc : scal d = true) : Rep ρ F v d := by
  cases h with
  | rep r => exact r.scal sc
  | con c _ _ => exact (isC_scal c sc).elim
  | wr _ _ _ => exact nomatch sc
  | ws _ _ _ => exact nomatch sc

/-- one value is kept -/
theorem keep_ok {s' : St} {p : P} (m0 : Sim K g0 s0 σ H0) (t : Stp g0 H0 g H) (m : Sim K g s σ H) (sl : s.sl = s0.sl) (o : OpR' K g H v p) (fi : FrI H0 v p) (e : keep p s = .ok d s') :
    ∃ g', Stp g0 H0 g' H ∧ Sim K g' s' σ H ∧ Rep g'.ρ g'.F v d ∧ ((∃ a, v = .ref a ∧ Fr1 g g' a ∧ ((∃ k, p = .pc k) ∨ ∃ d, p = .pv d true)) ∨ g' = g) := by
  cases o with
  | va r =>
    cases e
    exact ⟨g, t, m, r, .inr rfl⟩
  | @fr a o d' c h mu r hF hc hρ =>
    cases e
    have h0 : H0 a = none := fi a rfl
    have t' := t.fz (o := o) hF (.inl h0)
    have c' := m.c.fz (ce' := s.ce) h c r hF rfl fun k x b e1 e2 => .inl ⟨fun q => hc (by rw [← q]; exact List.mem_of_getElem? e2), e1⟩
    have m' := Sim.of0 m0 t' c'
    rw [← sl] at m'
    exact ⟨g.fz a o, t', m', .con c (show upd g.F a o a = some o from upd_same) (r.mono (.refl _) (fz_F hF)), .inl ⟨a, rfl, fz_fr1 hF, .inr ⟨_, rfl⟩⟩⟩
  | @ce a k h =>
    simp only [keep] at e
    cases hc : s.ce[k]? with
    | none => rw [hc] at e; cases e
    | some c =>
      rw [hc] at e
      have w := m.c.cel k c a hc h
      have hlt : k < s.ce.length := (List.getElem?_eq_some_iff.mp hc).1
      have go : ∀ (o : HO) (x : D), c.d = x → isC x = true → g.F a = none → H a = some o → RepO g.ρ g.F o x → ∃ g', Stp g0 H0 g' H ∧ Sim K g' { s with ce := s.ce.set k (.fz x) } σ H ∧ Rep g'.ρ g'.F (.ref a) x ∧ ((∃ a', V.ref a = .ref a' ∧ Fr1 g g' a' ∧ ((∃ j, P.pc k = .pc j) ∨ ∃ d, P.pc k = .pv d true)) ∨ g' = g) := fun o x _ ic hF ho r => by
        have t' := t.fz (o := o) hF (.inr (List.mem_of_getElem? h))
        have c' := m.c.fz (ce' := s.ce.set k (.fz x)) ho ic r hF (by simp) fun j y b e1 e2 => by
          by_cases q : k = j
          · subst q
            rw [h] at e2; cases e2
            rw [List.getElem?_set_self hlt] at e1
            cases e1
            exact .inr ⟨rfl, rfl⟩
          · rw [List.getElem?_set_ne q] at e1
            refine .inl ⟨fun z => ?_, e1⟩
            subst z
            obtain ⟨j1, f1⟩ := List.getElem?_eq_some_iff.mp h
            obtain ⟨j2, f2⟩ := List.getElem?_eq_some_iff.mp e2
            exact q ((List.getElem_inj m.c.cnd).mp (f1.trans f2.symm))
        have m' := Sim.of0 m0 t' c'
        rw [← sl] at m'
        exact ⟨g.fz a o, t', m', .con ic (show upd g.F a o a = some o from upd_same) (r.mono (.refl _) (fz_F hF)), .inl ⟨a, rfl, fz_fr1 hF, .inl ⟨_, rfl⟩⟩⟩
      cases c with
      | ow x =>
        cases e
        obtain ⟨w1, w2, o, w3, _, w5⟩ := w
        exact go o x rfl w1 w2 w3 w5
      | he x =>
        cases e
        obtain ⟨w1, w2, o, w3, _, w5⟩ := w
        exact go o x rfl w1 w2 w3 w5
      | fz x =>
        cases e
        refine ⟨g, t, ?_, w, .inr rfl⟩
        have es : s.ce.set k (.fz x) = s.ce := by
          obtain ⟨_, f⟩ := List.getElem?_eq_some_iff.mp hc
          rw [← f]
          exact List.set_getElem_self _
        show Sim K g { s with ce := s.ce.set k (.fz x) } σ H
        rw [es]
        exact m
  | bo b =>
    simp only [keep] at e
    split at e
    · rename_i sc
      cases e
      refine ⟨g, t, m, ?_, .inr rfl⟩
      cases b with
      | rep r => exact r
      | con c h r _ _ _ => exact rep_scals (K := K) (g := g) (H := H) (.con c h r) sc
      | wr _ _ _ => exact nomatch sc
      | ws _ _ _ => exact nomatch sc
    · cases e

theorem OpRs.length {vs : List V} {ps : List P} (h : OpRs K g H vs ps) : vs.length = ps.length := by
  induction h with
  | nil => rfl
  | cons _ _ ih => rw [List.length_cons, List.length_cons, ih]
/-- the operands that may be kept together -/
def Kp : List P → Prop
  | [] => True
  | .pb d :: r => scal d = true ∧ Kp r
  | _ :: r => Kp r
theorem keeps_kp : ∀ {ps : List P} {s s' : St} {ds : List D}, keeps ps s = .ok ds s' → Kp ps
  | [], _, _, _, _ => trivial
  | p :: ps, s, s', ds, h => by
    obtain ⟨d, s1, h1, h2⟩ := R.inv h
    obtain ⟨ds', s2, h3, _⟩ := R.inv h2
    have k := keeps_kp h3
    cases p with
    | pv d f => exact k
    | pc k' => exact k
    | pb x =>
      refine ⟨?_, k⟩
      simp only [keep] at h1
      split at h1
      · assumption
      · cases h1
theorem OpRs.fz {g' : Gh} {a : Addr} (f : Fr1 g g' a) : ∀ {vs : List V} {ps : List P}, OpRs K g H vs ps → Kp ps → V.ref a ∉ frs vs ps → OpRs K g' H vs ps
  | _, _, .nil, _, _ => .nil
  | _, _, .cons (v := v) (p := p) (vs := vs) (ps := ps) h r, kp, hn => by
    have hn' : V.ref a ∉ frs vs ps := fun m => hn (by
      unfold frs at m ⊢
      rw [List.zip_cons_cons, List.filterMap_cons]
      split
      · exact m
      · exact List.mem_cons_of_mem _ m)
    cases p with
    | pv d fr =>
      cases fr with
      | false => exact .cons (h.fz f (.inr (.inr (.inl ⟨d, rfl⟩)))) (OpRs.fz f r kp hn')
      | true =>
        refine .cons (h.fz f (.inl fun e => hn ?_)) (OpRs.fz f r kp hn')
        rw [e]
        unfold frs
        rw [List.zip_cons_cons, List.filterMap_cons]
        exact List.mem_cons_self
    | pc k => exact .cons (h.fz f (.inr (.inl ⟨k, rfl⟩))) (OpRs.fz f r kp hn')
    | pb d => exact .cons (h.fz f (.inr (.inr (.inr ⟨d, rfl, kp.1⟩)))) (OpRs.fz f r kp.2 hn')
theorem frs_sub {vs : List V} {ps : List P} {v : V} {p : P} {x : V} (h : x ∈ frs vs ps) : x ∈ frs (v :: vs) (p :: ps) := by
  unfold frs at h ⊢
  rw [List.zip_cons_cons, List.filterMap_cons]
  split
  · exact h
  · exact List.mem_cons_of_mem _ h
theorem frs_nd {vs : List V} {ps : List P} {v : V} {p : P} (h : (frs (v :: vs) (p :: ps)).Nodup) : (frs vs ps).Nodup := by
  unfold frs at h ⊢
  rw [List.zip_cons_cons, List.filterMap_cons] at h
  split at h
  · exact h
  · exact (List.nodup_cons.mp h).2
theorem frs_hd {vs : List V} {ps : List P} {v : V} {d : D} (h : (frs (v :: vs) (.pv d true :: ps)).Nodup) : v ∉ frs vs ps := by
  unfold frs at h ⊢
  rw [List.zip_cons_cons, List.filterMap_cons] at h
  exact (List.nodup_cons.mp h).1
theorem frs_fresh : ∀ {vs : List V} {ps : List P} {x : V}, OpRs K g H vs ps → x ∈ frs vs ps → ∃ b, x = .ref b ∧ b ∉ g.cp
  | _, _, x, .nil, h => by simp [frs] at h
  | _, _, x, .cons (v := v) (p := p) (vs := vs) (ps := ps) o r, h => by
    unfold frs at h
    rw [List.zip_cons_cons, List.filterMap_cons] at h
    cases p with
    | pv d f =>
      cases f with
      | false => exact frs_fresh (vs := vs) (ps := ps) r (by unfold frs; exact h)
      | true =>
        rcases List.mem_cons.mp h with e | h
        · subst e
          cases o with
          | fr _ _ _ _ _ hc _ => exact ⟨_, rfl, hc⟩
        · exact frs_fresh (vs := vs) (ps := ps) r (by unfold frs; exact h)
    | pc k => exact frs_fresh (vs := vs) (ps := ps) r (by unfold frs; exact h)
    | pb k => exact frs_fresh (vs := vs) (ps := ps) r (by unfold frs; exact h)
/-- another operand, over the keeping -/
def Kq (v : V) (p : P) (fs : List V) : Prop := (∀ a, v = .ref a → v ∉ fs) ∨ True
/-- several values are kept -/
theorem keeps_ok : ∀ {vs : List V} {ps : List P} {g : Gh} {s s' : St} {ds : List D}, Sim K g0 s0 σ H0 → Stp g0 H0 g H → Sim K g s σ H → s.sl = s0.sl → OpRs K g H vs ps → (∀ v ∈ frs vs ps, ∀ a, v = .ref a → H0 a = none) → (frs vs ps).Nodup →
    keeps ps s = .ok ds s' → ∃ g', Stp g0 H0 g' H ∧ Sim K g' s' σ H ∧ Reps g'.ρ g'.F vs ds ∧ g'.ρ = g.ρ ∧ g'.cp = g.cp ∧ ExH g.F g'.F
  | _, _, g, s, s', ds, m0, t, m, sl, .nil, _, _, e => by
    cases e
    exact ⟨g, t, m, .nil, rfl, rfl, .refl _⟩
  | _, _, g, s, s', ds, m0, t, m, sl, .cons (v := v) (p := p) (vs := vs) (ps := ps) o r, fi, nd, e => by
    have kp := keeps_kp e
    obtain ⟨d, s1, h1, h2⟩ := R.inv e
    obtain ⟨ds', s2, h3, h4⟩ := R.inv h2
    cases h4
    have kp' : Kp ps := keeps_kp h3
    have fi1 : FrI H0 v p := by
      cases p with
      | pv d' f =>
        cases f with
        | false => exact trivial
        | true =>
          intro a ea
          refine fi v ?_ a ea
          unfold frs
          rw [List.zip_cons_cons, List.filterMap_cons]
          exact List.mem_cons_self
      | _ => exact trivial
    obtain ⟨g1, t1, m1, r1, k1⟩ := keep_ok m0 t m sl o fi1 h1
    have all : OpRs K g1 H vs ps ∧ g1.ρ = g.ρ ∧ g1.cp = g.cp ∧ ExH g.F g1.F := by
      rcases k1 with ⟨a, ea, f, hp⟩ | rfl
      · refine ⟨r.fz f kp' fun hm => ?_, f.ρ, f.cp, f.F⟩
        rcases hp with ⟨k, rfl⟩ | ⟨d', rfl⟩
        · obtain ⟨b, eb, hb⟩ := frs_fresh r hm
          cases eb
          cases o with
          | ce h =>
            cases ea
            exact hb (List.mem_of_getElem? h)
        · subst ea
          exact frs_hd nd hm
      · exact ⟨r, rfl, rfl, .refl _⟩
    obtain ⟨r', e1, e2, e3⟩ := all
    obtain ⟨g2, t2, m2, r2, f1, f2, f3⟩ := keeps_ok m0 t1 m1 ((keep_fx h1).sl.trans sl) r' (fun x hx => fi x (frs_sub hx)) (frs_nd nd) h3
    exact ⟨g2, t2, m2, .cons (r1.mono (by rw [f1]; exact .refl _) f3) r2, f1.trans e1, f2.trans e2, e3.trans f3⟩
end
end Pv

set_option Elab.async false
set_option linter.all false
set_option maxRecDepth 100000
namespace Pv
open PySem L2 PyProof.Rows
section
variable {K : PySem.W.Frag} {g g0 g1 : Gh} {H H0 H1 : Hp} {s s0 s1 : St} {σ : L2.St} {v : V} {d : D}

theorem SimC.cells {ce ce' : List Cel} {ob : List Ob} (m : SimC g ce ob H) (hl : ce'.length = ce.length)
    (hc : ∀ (k : Nat) (x : Cel) (a : Addr), ce'[k]? = some x → g.cp[k]? = some a → CelOk g H a x) : SimC g ce' ob H :=
  ⟨m.ex, m.cn.trans hl.symm, hc, m.cnd, m.ρF, m.ρc, m.ob⟩
theorem SimC.setc {ce : List Cel} {ob : List Ob} {k : Nat} {x : Cel} (m : SimC g ce ob H) (h : ∀ a, g.cp[k]? = some a → CelOk g H a x) : SimC g (ce.set k x) ob H :=
  m.cells (by simp) fun j y a e1 e2 => by
    by_cases q : k = j
    · subst q
      have hlt : k < ce.length := by
        rw [← m.cn]
        exact (List.getElem?_eq_some_iff.mp e2).1
      rw [List.getElem?_set_self hlt] at e1
      cases e1
      exact h a e2
    · rw [List.getElem?_set_ne q] at e1
      exact m.cel j y a e1 e2
theorem Sim.ce {ce' : List Cel} (m : Sim K g s σ H) (c : SimC g ce' s.ob H) : Sim K g { s with ce := ce' } σ H := ⟨c, m.len, m.slot⟩
theorem hold_ok {p : P} (m : Sim K g s σ H) (o : OpR' K g H v p) (e : deref s p = some d) :
    Sim K g (hold p s).1 σ H ∧ ∀ g' s' σ' H', Stp g H g' H' → Sim K g' s' σ' H' → Hl (hold p s).1 s' → Pk K g' H' v d := by
  cases o with
  | va r =>
    cases e
    exact ⟨m, fun g' s' σ' H' t m' h => .rep (r.mono t.ρ t.F)⟩
  | fr c h mu r hF hc hρ =>
    cases e
    refine ⟨m, fun g' s' σ' H' t m' hl => ?_⟩
    obtain ⟨k1, _⟩ := t.keepF h hF hc hρ
    exact .con c k1 (r.mono t.ρ t.F)
  | bo b =>
    cases e
    refine ⟨m, fun g' s' σ' H' t m' hl => ?_⟩
    cases b.mono t with
    | rep r => exact .rep r
    | con c h r _ _ _ => exact .con c h r
    | wr h hs r => exact .wr (h H') hs r
    | ws h hs r => exact .ws (h H') hs r
  | @ce a k h =>
    have e' : (s.ce[k]?).map Cel.d = some d := e
    have fin : ∀ g' s' σ' H', Stp g H g' H' → Sim K g' s' σ' H' → Hd s' k d → Pk K g' H' (.ref a) d := fun g' s' σ' H' t m' hd => by
      have ha := t.cp _ _ h
      rcases hd with hd | hd
      · obtain ⟨w1, _, o, w3, _, w5⟩ := m'.c.cel k _ a hd ha
        exact .con w1 w3 w5
      · exact .rep (m'.c.cel k _ a hd ha)
    cases hc : s.ce[k]? with
    | none => rw [hc] at e'; cases e'
    | some c =>
      rw [hc] at e'
      have ed : c.d = d := Option.some.inj e'
      have w := m.c.cel k c a hc h
      have hlt : k < s.ce.length := (List.getElem?_eq_some_iff.mp hc).1
      cases c with
      | ow x =>
        cases ed
        simp only [hold, hc]
        refine ⟨m.ce (m.c.setc fun b eb => ?_), fun g' s' σ' H' t m' hl => fin g' s' σ' H' t m' (hl k _ (.inl (List.getElem?_set_self hlt)))⟩
        rw [h] at eb; cases eb
        exact w
      | he x =>
        cases ed
        simp only [hold, hc]
        exact ⟨m, fun g' s' σ' H' t m' hl => fin g' s' σ' H' t m' (hl k _ (.inl hc))⟩
      | fz x =>
        cases ed
        simp only [hold, hc]
        exact ⟨m, fun g' s' σ' H' t m' hl => fin g' s' σ' H' t m' (hl k _ (.inr hc))⟩
theorem letGo_ok (o : Option Nat) (m : Sim K g s σ H) : Sim K g (letGo o s) σ H := by
  cases o with
  | none => exact m
  | some k =>
    cases hc : s.ce[k]? with
    | none => simp only [letGo, hc]; exact m
    | some c =>
      cases c with
      | ow d => simp only [letGo, hc]; exact m
      | fz d => simp only [letGo, hc]; exact m
      | he d =>
        simp only [letGo, hc]
        exact m.ce (m.c.setc fun a e => by
          have w := m.c.cel k _ a hc e
          exact w)
theorem letGos_ok : ∀ (l : List (Option Nat)) {s : St}, Sim K g s σ H → Sim K g (l.foldl (fun s o => letGo o s) s) σ H
  | [], _, m => m
  | o :: l, _, m => letGos_ok l (letGo_ok o m)

/-! stores -/
theorem Sim.setSlot {i : Nat} {x : Slot} {ce' : List Cel} (m : Sim K g s σ H) (c : SimC g ce' s.ob H) (hs : i < σ.length → SlotOk K g H x (some (some v))) : Sim K g { s with sl := s.sl.set i x, ce := ce' } (σ.set i (some v)) H where
  c := c
  len := by
    show (s.sl.set i x).length = (σ.set i (some v)).length
    rw [List.length_set, List.length_set]
    exact m.len
  slot := fun j y e => by
    have e : (s.sl.set i x)[j]? = some y := e
    by_cases q : i = j
    · subst q
      have hlt : i < s.sl.length := by
        have := (List.getElem?_eq_some_iff.mp e).1
        simpa using this
      rw [List.getElem?_set_self hlt] at e
      cases e
      have hlt' : i < σ.length := m.len ▸ hlt
      rw [List.getElem?_set_self hlt']
      exact hs hlt'
    · rw [List.getElem?_set_ne q] at e
      rw [List.getElem?_set_ne q]
      exact m.slot j y e
/-- a new cell -/
def Gh.nc (g : Gh) (a : Addr) : Gh := { g with cp := g.cp ++ [a] }
theorem SimC.nc {ce : List Cel} {ob : List Ob} {a : Addr} {o : HO} (m : SimC g ce ob H) (c : isC d = true) (h : H a = some o) (mu : Mut (some o)) (r : RepO g.ρ g.F o d) (hF : g.F a = none) (hc : a ∉ g.cp) : SimC (g.nc a) (ce ++ [.ow d]) ob H where
  ex := m.ex
  cn := by
    show (g.cp ++ [a]).length = _
    rw [List.length_append, List.length_append, m.cn]; rfl
  cel := fun k x b e1 e2 => by
    have e2 : (g.cp ++ [a])[k]? = some b := e2
    by_cases q : k < g.cp.length
    · rw [List.getElem?_append_left q] at e2
      rw [List.getElem?_append_left (by rw [← m.cn]; exact q)] at e1
      have w := m.cel k x b e1 e2
      cases x with
      | ow y => exact w
      | he y => exact w
      | fz y => exact w
    · have hk : k = g.cp.length := by
        have := (List.getElem?_eq_some_iff.mp e2).1
        rw [List.length_append] at this
        simp at this
        omega
      subst hk
      rw [List.getElem?_append_right (Nat.le_refl _)] at e2
      rw [List.getElem?_append_right (by rw [m.cn]; exact Nat.le_refl _)] at e1
      simp at e2
      rw [m.cn] at e1
      simp at e1
      subst e1 e2
      exact ⟨c, hF, o, h, mu, r⟩
  cnd := by
    show (g.cp ++ [a]).Nodup
    rw [List.nodup_append]
    exact ⟨m.cnd, by simp, fun x hx y hy => by
      have : y = a := by simpa using hy
      subst this
      exact fun z => hc (z ▸ hx)⟩
  ρF := m.ρF
  ρc := fun b z => by
    have z : b ∈ g.ρ := z
    rw [m.ob.2] at z; cases z
  ob := m.ob
theorem Stp.nC {a : Addr} (t : Stp g0 H0 g H) (h0 : H0 a = none) : Stp g0 H0 (g.nc a) H where
  ρ := t.ρ
  F := t.F
  cp := t.cp.trans (.app _ _)
  fr := t.fr
  th := t.th
  nF := t.nF
  nc := fun b hb => by
    rcases List.mem_append.mp hb with z | z
    · exact t.nc b z
    · have : b = a := by simpa using z
      subst this
      exact .inr h0
  nρ := t.nρ
theorem putNm_ok {i : Nat} {p : P} {u : Unit} {s' : St} (m0 : Sim K g0 s0 σ H0) (t : Stp g0 H0 g H) (m : Sim K g s σ H) (sl : s.sl = s0.sl) (o : OpR' K g H v p) (fi : FrI H0 v p) (e : putNm i p s = .ok u s') :
    ∃ g', Stp g0 H0 g' H ∧ Sim K g' s' (σ.set i (some v)) H := by
  cases o with
  | va r =>
    cases e
    exact ⟨g, t, m.setSlot m.c fun _ => ⟨v, rfl, r⟩⟩
  | bo b =>
    cases e
    exact ⟨g, t, m.setSlot m.c fun _ => ⟨v, rfl, b⟩⟩
  | ce h =>
    cases e
    exact ⟨g, t, m.setSlot m.c fun _ => ⟨_, rfl, h⟩⟩
  | @fr a o d c h mu r hF hc hρ =>
    cases e
    have h0 : H0 a = none := fi a rfl
    have t' := t.nC h0
    have c' := m.c.nc c h mu r hF hc
    have m' := Sim.of0 m0 t' c'
    rw [← sl] at m'
    refine ⟨g.nc a, t', Sim.setSlot (s := ⟨s.sl, s.ce ++ [.ow d], s.ob⟩) m' c' fun _ => ⟨a, rfl, ?_⟩⟩
    show (g.cp ++ [a])[s.ce.length]? = some a
    rw [← m.c.cn, List.getElem?_append_right (Nat.le_refl _)]
    simp
/-- a container of one's own is written -/
theorem SimC.write {ce : List Cel} {ob : List Ob} {k : Nat} {a : Addr} {o : HO} {x : D} (m : SimC g ce ob H) (hk : ce[k]? = some (.ow x)) (ha : g.cp[k]? = some a) (c : isC d = true) (mu : Mut (some o)) (r : RepO g.ρ g.F o d) : SimC g (ce.set k (.ow d)) ob (upd H a o) := by
  have hF : g.F a = none := (m.cel k _ a hk ha).2.1
  refine ⟨fun b u e => ?_, by rw [List.length_set]; exact m.cn, fun j y b e1 e2 => ?_, m.cnd, m.ρF, m.ρc, m.ob⟩
  · rw [upd_ne (fun q => by subst q; rw [hF] at e; cases e)]
    exact m.ex _ _ e
  · have hlt : k < ce.length := (List.getElem?_eq_some_iff.mp hk).1
    by_cases q : k = j
    · subst q
      rw [ha] at e2; cases e2
      rw [List.getElem?_set_self hlt] at e1
      cases e1
      exact ⟨c, hF, o, upd_same, mu, r⟩
    · rw [List.getElem?_set_ne q] at e1
      have hb : b ≠ a := fun z => by
        subst z
        obtain ⟨j1, f1⟩ := List.getElem?_eq_some_iff.mp ha
        obtain ⟨j2, f2⟩ := List.getElem?_eq_some_iff.mp e2
        exact q ((List.getElem_inj m.cnd).mp (f1.trans f2.symm))
      have w := m.cel j y b e1 e2
      cases y with
      | ow z =>
        obtain ⟨w1, w2, o', w3, w4, w5⟩ := w
        exact ⟨w1, w2, o', (upd_ne hb).trans w3, w4, w5⟩
      | he z =>
        obtain ⟨w1, w2, o', w3, w4, w5⟩ := w
        exact ⟨w1, w2, o', (upd_ne hb).trans w3, w4, w5⟩
      | fz z => exact w
theorem stp_write {k : Nat} {a : Addr} {o u : HO} (ha : g.cp[k]? = some a) (he : H a = some u) : Stp g H g (upd H a o) where
  ρ := .refl _
  F := .refl _
  cp := .refl _
  fr := fun b o' h hc _ => by
    rw [upd_ne (fun q => hc (by rw [q]; exact List.mem_of_getElem? ha))]
    exact h
  th := fun b o' h => by
    by_cases q : b = a
    · subst q; exact ⟨_, upd_same⟩
    · exact ⟨o', by rw [upd_ne q]; exact h⟩
  nF := fun _ _ h => .inl h
  nc := fun _ h => .inl h
  nρ := fun _ h => .inl h
theorem Sim.write {k : Nat} {a : Addr} {o : HO} {x : D} (m : Sim K g s σ H) (hk : s.ce[k]? = some (.ow x)) (ha : g.cp[k]? = some a) (c : isC d = true) (mu : Mut (some o)) (r : RepO g.ρ g.F o d) :
    Stp g H g (upd H a o) ∧ Sim K g { s with ce := s.ce.set k (.ow d) } σ (upd H a o) := by
  obtain ⟨_, _, u, hu, _⟩ := m.c.cel k _ a hk ha
  have t : Stp g H g (upd H a o) := stp_write ha hu
  exact ⟨t, m.c.write hk ha c mu r, m.len, fun i y e => (m.slot i y e).mono t⟩
/-- new containers get cells -/
theorem alloc_ok {p : P} (m0 : Sim K g0 s0 σ H0) (t : Stp g0 H0 g H) (m : Sim K g s σ H) (sl : s.sl = s0.sl) (o : OpR' K g H v p) (fi : FrI H0 v p) :
    ∃ g', Stp g0 H0 g' H ∧ Sim K g' (alloc p s).2 σ H ∧ (alloc p s).2.sl = s.sl ∧ OpR' K g' H v (alloc p s).1 ∧ FrI H v (alloc p s).1 ∧ (g' = g ∨ ∃ a, v = .ref a ∧ g' = g.nc a ∧ ∃ d, p = .pv d true) := by
  cases o with
  | va r => exact ⟨g, t, m, rfl, .va r, trivial, .inl rfl⟩
  | bo b => exact ⟨g, t, m, rfl, .bo b, trivial, .inl rfl⟩
  | ce h => exact ⟨g, t, m, rfl, .ce h, trivial, .inl rfl⟩
  | @fr a o d c h mu r hF hc hρ =>
    have h0 : H0 a = none := fi a rfl
    have t' := t.nC h0
    have c' := m.c.nc c h mu r hF hc
    have m' := Sim.of0 m0 t' c'
    rw [← sl] at m'
    refine ⟨g.nc a, t', m', rfl, .ce ?_, trivial, .inr ⟨a, rfl, rfl, _, rfl⟩⟩
    show (g.cp ++ [a])[s.ce.length]? = some a
    rw [← m.c.cn, List.getElem?_append_right (Nat.le_refl _)]
    simp
end
end Pv

set_option Elab.async false
set_option linter.all false
set_option maxRecDepth 100000
namespace Pv
open PySem L2 PyProof.Rows
section
variable {K : PySem.W.Frag} {g g0 g1 : Gh} {H H0 H1 : Hp} {s s0 s1 : St} {σ : L2.St} {v : V} {d : D}

/-- a lent value, ahead of the call -/
inductive BoL (K : PySem.W.Frag) (g : Gh) (H H0 : Hp) (ln : List Nat) (s : St) : V → D → Prop where
  | rep {v : V} {d : D} : Rep g.ρ g.F v d → BoL K g H H0 ln s v d
  | wr {a : Addr} {vs : List V} {ds : List D} : (∀ H', SqT K H' a vs) → (∀ d ∈ ds, scal d = true) → Reps g.ρ g.F vs ds → BoL K g H H0 ln s (.ref a) (.kt ds)
  | ws {a : Addr} {vs : List V} {ds : List D} : (∀ H', SqL K H' a vs) → (∀ d ∈ ds, scal d = true) → Reps g.ρ g.F vs ds → BoL K g H H0 ln s (.ref a) (.scr ds)
  | con {a : Addr} {o : HO} {d : D} : isC d = true → H a = some o → RepO g.ρ g.F o d → g.F a = none → ((∃ u, H0 a = some u) ∧ a ∉ g.cp) ∨ (∃ k, g.cp[k]? = some a ∧ ((∃ x, s.ce[k]? = some (.he x)) ∨ k ∈ ln)) → BoL K g H H0 ln s (.ref a) d
theorem BoL.mono {ln ln' : List Nat} (h : ∀ k ∈ ln, k ∈ ln') (b : BoL K g H H0 ln s v d) : BoL K g H H0 ln' s v d := by
  cases b with
  | rep r => exact .rep r
  | wr a b c => exact .wr a b c
  | ws a b c => exact .ws a b c
  | con a b c d e => exact .con a b c d (e.imp id fun ⟨k, e1, e2⟩ => ⟨k, e1, e2.imp id (h k)⟩)
def SlotB (K : PySem.W.Frag) (g : Gh) (H H0 : Hp) (s : St) (ln : List Nat) (cpb : List Addr) (v : V) : Slot → Prop
  | .un => False
  | .va d => Rep g.ρ g.F v d
  | .bo d => BoL K g H H0 ln s v d
  | .ce j => ∃ a, v = .ref a ∧ cpb[j]? = some a
theorem SlotB.mono {ln ln' : List Nat} {c c' : List Addr} {x : Slot} (h : ∀ k ∈ ln, k ∈ ln') (hc : PreL c c') (b : SlotB K g H H0 s ln c v x) : SlotB K g H H0 s ln' c' v x := by
  cases x with
  | un => exact b
  | va d => exact b
  | bo d => exact BoL.mono h b
  | ce j =>
    obtain ⟨a, e1, e2⟩ := b
    exact ⟨a, e1, hc _ _ e2⟩
/-- the arguments so far: fs the new containers -/
structure BI (K : PySem.W.Frag) (g : Gh) (H H0 : Hp) (s : St) (vs : List V) (fs : List V) (b : Bd) (cpb : List Addr) : Prop where
  l1 : cpb.length = b.ce.length
  l2 : b.to.length = b.ce.length
  sl : b.sl.length = vs.length
  cel : ∀ (i : Nat) (c : Cel) (a : Addr), b.ce[i]? = some c → cpb[i]? = some a → CelOk g H a c
  nd : cpb.Nodup
  ow : ∀ (i : Nat) (c : Cel), b.ce[i]? = some c → ∃ d, c = .ow d
  to : ∀ (i k : Nat), b.to[i]? = some (some k) → ∃ a d, cpb[i]? = some a ∧ g.cp[k]? = some a ∧ s.ce[k]? = some (.ow d)
  mem : ∀ (i : Nat) (a : Addr), cpb[i]? = some a → (∃ k, b.to[i]? = some (some k) ∧ g.cp[k]? = some a) ∨ (b.to[i]? = some none ∧ V.ref a ∈ fs)
  slot : ∀ (i : Nat) (x : Slot), b.sl[i]? = some x → ∃ v, vs[i]? = some v ∧ SlotB K g H H0 s b.ln cpb v x
  dis : ∀ k ∈ b.ln, some k ∉ b.to
theorem get_snoc {α : Type} {l : List α} {x y : α} {i : Nat} (h : (l ++ [x])[i]? = some y) : l[i]? = some y ∨ (i = l.length ∧ x = y) := by
  by_cases q : i < l.length
  · rw [List.getElem?_append_left q] at h
    exact .inl h
  · have hk : i = l.length := by
      have := (List.getElem?_eq_some_iff.mp h).1
      rw [List.length_append] at this
      simp at this
      omega
    subst hk
    rw [List.getElem?_append_right (Nat.le_refl _)] at h
    simp at h
    exact .inr ⟨rfl, h⟩
theorem get_snoc_last {α : Type} {l : List α} {x : α} : (l ++ [x])[l.length]? = some x := by
  rw [List.getElem?_append_right (Nat.le_refl _)]
  simp
theorem BI.val {vs fs : List V} {b : Bd} {cpb : List Addr} {x : Slot} (h : BI K g H H0 s vs fs b cpb) (fs' : List V) (hf : ∀ y ∈ fs, y ∈ fs') (ln' : List Nat) (hl : ∀ k ∈ b.ln, k ∈ ln') (hd : ∀ k ∈ ln', some k ∉ b.to)
    (hx : SlotB K g H H0 s ln' cpb v x) : BI K g H H0 s (vs ++ [v]) fs' { b with sl := b.sl ++ [x], ln := ln' } cpb where
  l1 := h.l1
  l2 := h.l2
  sl := by
    show (b.sl ++ [x]).length = _
    rw [List.length_append, List.length_append, h.sl]; rfl
  cel := h.cel
  nd := h.nd
  ow := h.ow
  to := h.to
  mem := fun i a e => (h.mem i a e).imp id fun ⟨e1, e2⟩ => ⟨e1, hf _ e2⟩
  slot := fun i y e => by
    rcases get_snoc e with e | ⟨e1, e2⟩
    · obtain ⟨w, e1, e2⟩ := h.slot i y e
      refine ⟨w, ?_, e2.mono hl (.refl _)⟩
      rw [List.getElem?_append_left (List.getElem?_eq_some_iff.mp e1).1]
      exact e1
    · subst e1 e2
      exact ⟨v, by rw [h.sl]; exact get_snoc_last, hx⟩
  dis := hd
theorem BI.cell {vs fs : List V} {b : Bd} {cpb : List Addr} {a : Addr} {o : Option Nat} (h : BI K g H H0 s vs fs b cpb) (fs' : List V) (hf : ∀ y ∈ fs, y ∈ fs') (hw : CelOk g H a (.ow d)) (hn : a ∉ cpb)
    (ho : (o = none ∧ V.ref a ∈ fs') ∨ ∃ k x, o = some k ∧ g.cp[k]? = some a ∧ s.ce[k]? = some (.ow x) ∧ k ∉ b.ln) :
    BI K g H H0 s (vs ++ [.ref a]) fs' { b with sl := b.sl ++ [.ce b.ce.length], ce := b.ce ++ [.ow d], to := b.to ++ [o] } (cpb ++ [a]) where
  l1 := by
    show (cpb ++ [a]).length = (b.ce ++ [_]).length
    rw [List.length_append, List.length_append, h.l1]; rfl
  l2 := by
    show (b.to ++ [o]).length = (b.ce ++ [_]).length
    rw [List.length_append, List.length_append, h.l2]; rfl
  sl := by
    show (b.sl ++ [_]).length = _
    rw [List.length_append, List.length_append, h.sl]; rfl
  cel := fun i c x e1 e2 => by
    rcases get_snoc e1 with f1 | ⟨f1, f1'⟩
    · rcases get_snoc e2 with f2 | ⟨f2, _⟩
      · exact h.cel i c x f1 f2
      · have := (List.getElem?_eq_some_iff.mp f1).1
        rw [f2, h.l1] at this
        exact absurd this (Nat.lt_irrefl _)
    · subst f1'
      rcases get_snoc e2 with f2 | ⟨_, f2⟩
      · have := (List.getElem?_eq_some_iff.mp f2).1
        rw [f1, h.l1] at this
        exact absurd this (Nat.lt_irrefl _)
      · subst f2
        exact hw
  nd := by
    rw [List.nodup_append]
    exact ⟨h.nd, by simp, fun x hx y hy => by
      have : y = a := by simpa using hy
      subst this
      exact fun z => hn (z ▸ hx)⟩
  ow := fun i c e => by
    rcases get_snoc e with e | ⟨e1, e2⟩
    · exact h.ow i c e
    · exact ⟨d, e2.symm⟩
  to := fun i k e => by
    rcases get_snoc e with e | ⟨e1, e2⟩
    · obtain ⟨x, y, e1, e2, e3⟩ := h.to i k e
      exact ⟨x, y, PreL.app _ _ _ _ e1, e2, e3⟩
    · rcases ho with ⟨z, _⟩ | ⟨k', x, z, c1, c2, _⟩
      · rw [z] at e2; cases e2
      · rw [z] at e2
        cases e2
        refine ⟨a, x, ?_, c1, c2⟩
        rw [e1, h.l2, ← h.l1]
        exact get_snoc_last
  mem := fun i x e => by
    rcases get_snoc e with e | ⟨e1, e2⟩
    · rcases h.mem i x e with ⟨k, e1, e2⟩ | ⟨e1, e2⟩
      · exact .inl ⟨k, by show (b.to ++ [o])[i]? = _; rw [List.getElem?_append_left (List.getElem?_eq_some_iff.mp e1).1]; exact e1, e2⟩
      · exact .inr ⟨by show (b.to ++ [o])[i]? = _; rw [List.getElem?_append_left (List.getElem?_eq_some_iff.mp e1).1]; exact e1, hf _ e2⟩
    · subst e2
      have eo : (b.to ++ [o])[i]? = some o := by
        rw [e1, h.l1, ← h.l2]
        exact get_snoc_last
      rcases ho with ⟨z, z2⟩ | ⟨k, x', z, c1, c2, _⟩
      · exact .inr ⟨eo.trans (by rw [z]), z2⟩
      · exact .inl ⟨k, eo.trans (by rw [z]), c1⟩
  slot := fun i y e => by
    rcases get_snoc e with e | ⟨e1, e2⟩
    · obtain ⟨w, e1, e2⟩ := h.slot i y e
      refine ⟨w, ?_, e2.mono (fun _ k => k) (.app _ _)⟩
      rw [List.getElem?_append_left (List.getElem?_eq_some_iff.mp e1).1]
      exact e1
    · subst e1 e2
      refine ⟨.ref a, by rw [h.sl]; exact get_snoc_last, a, rfl, ?_⟩
      rw [← h.l1]
      exact get_snoc_last
  dis := fun k hk m => by
    rcases List.mem_append.mp m with m | m
    · exact h.dis k hk m
    · have m : some k = o := by simpa using m
      rcases ho with ⟨z, _⟩ | ⟨k', x, z, _, _, n⟩
      · rw [z] at m; cases m
      · rw [z] at m
        cases m
        exact n hk
theorem cp_inj (c : SimC g s.ce s.ob H) {k k' : Nat} {a : Addr} (h : g.cp[k]? = some a) (h' : g.cp[k']? = some a) : k = k' := by
  obtain ⟨j1, f1⟩ := List.getElem?_eq_some_iff.mp h
  obtain ⟨j2, f2⟩ := List.getElem?_eq_some_iff.mp h'
  exact (List.getElem_inj c.cnd).mp (f1.trans f2.symm)
/-- one argument more -/
theorem bind1_ok {vs fs : List V} {b b' : Bd} {cpb : List Addr} {l : Bool} {p : P} (m0 : Sim K g0 s0 σ H0) (t : Stp g0 H0 g H) (m : Sim K g s σ H) (sl : s.sl = s0.sl) (o : OpR' K g H v p) (fi : FrI H0 v p) (pi : PbI K σ s.sl v p)
    (hfs : (∃ d, p = .pv d true) → v ∉ fs) (hfc : ∀ x ∈ fs, ∀ a, x = .ref a → a ∉ g.cp) (h : BI K g H H0 s vs fs b cpb) (e : bind1 l p s b = some b') :
    ∃ fs' cpb', BI K g H H0 s (vs ++ [v]) fs' b' cpb' ∧ (∀ y ∈ fs', y ∈ fs ∨ (y = v ∧ ∃ d, p = .pv d true)) ∧ PreL cpb cpb' := by
  cases o with
  | va r =>
    cases e
    exact ⟨fs, cpb, h.val fs (fun _ z => z) b.ln (fun _ z => z) h.dis r, fun y z => .inl z, .refl _⟩
  | @fr a o d c ho mu r hF hc hρ =>
    cases e
    refine ⟨.ref a :: fs, cpb ++ [a], h.cell (.ref a :: fs) (fun y z => List.mem_cons_of_mem _ z) ⟨c, hF, o, ho, mu, r⟩ (fun z => ?_) (.inl ⟨rfl, List.mem_cons_self⟩), fun y z => ?_, .app _ _⟩
    · obtain ⟨i, hi⟩ := List.getElem?_of_mem z
      rcases h.mem i a hi with ⟨k, _, e2⟩ | ⟨_, e2⟩
      · exact hc (List.mem_of_getElem? e2)
      · exact hfs ⟨d, rfl⟩ e2
    · rcases List.mem_cons.mp z with z | z
      · exact .inr ⟨z, d, rfl⟩
      · exact .inl z
  | bo bb =>
    rename_i d
    simp only [bind1] at e
    have hb : BoL K g H H0 b.ln s v d := by
      cases bb with
      | rep r => exact .rep r
      | wr w hs r => exact .wr w hs r
      | ws w hs r => exact .ws w hs r
      | @con a o d c hh r hF hc hρ =>
        refine .con c hh r hF (.inl ⟨?_, hc⟩)
        have pi : (∃ i : Nat, s.sl[i]? = some (Slot.bo d) ∧ σ[i]? = some (some (V.ref a))) ∨ ∀ g H, Bo K g H (.ref a) d := pi
        rcases pi with ⟨i, e1, e2⟩ | all
        · rw [sl] at e1
          obtain ⟨w, e3, e4⟩ := m0.slot i _ e1
          rw [e2] at e3
          cases e3
          cases e4 with
          | rep r' =>
            cases r' with
            | con _ h' _ => exact ⟨_, m0.c.ex _ _ h'⟩
            | tup _ _ => exact nomatch c
            | scr _ _ => exact nomatch c
            | obj _ => exact nomatch c
          | con _ h' _ _ _ _ => exact ⟨_, h'⟩
          | wr _ _ _ => exact nomatch c
          | ws _ _ _ => exact nomatch c
        · cases all g0 H0 with
          | rep r' =>
            cases r' with
            | con _ h' _ => exact ⟨_, m0.c.ex _ _ h'⟩
            | tup _ _ => exact nomatch c
            | scr _ _ => exact nomatch c
            | obj _ => exact nomatch c
          | con _ h' _ _ _ _ => exact ⟨_, h'⟩
          | wr _ _ _ => exact nomatch c
          | ws _ _ _ => exact nomatch c
    split at e
    · rename_i sc
      cases e
      refine ⟨fs, cpb, h.val (x := .va d) fs (fun _ z => z) b.ln (fun _ z => z) h.dis ?_, fun y z => .inl z, .refl _⟩
      cases bb with
      | rep r => exact r
      | con c h r _ _ _ => exact (isC_scal c sc).elim
      | wr _ _ _ => exact nomatch sc
      | ws _ _ _ => exact nomatch sc
    · split at e
      · cases e
        exact ⟨fs, cpb, h.val (x := .bo d) fs (fun _ z => z) b.ln (fun _ z => z) h.dis hb, fun y z => .inl z, .refl _⟩
      · cases e
  | @ce a k hk =>
    simp only [bind1] at e
    cases hc : s.ce[k]? with
    | none => rw [hc] at e; cases e
    | some c =>
      rw [hc] at e
      have w := m.c.cel k c a hc hk
      cases c with
      | fz d =>
        cases e
        exact ⟨fs, cpb, h.val (x := .va d) fs (fun _ z => z) b.ln (fun _ z => z) h.dis w, fun y z => .inl z, .refl _⟩
      | he d =>
        simp only at e
        split at e
        · cases e
          obtain ⟨w1, w2, o, w3, _, w5⟩ := w
          exact ⟨fs, cpb, h.val (x := .bo d) fs (fun _ z => z) b.ln (fun _ z => z) h.dis (.con w1 w3 w5 w2 (.inr ⟨k, hk, .inl ⟨d, hc⟩⟩)), fun y z => .inl z, .refl _⟩
        · cases e
      | ow d =>
        simp only at e
        split at e
        · split at e
          · cases e
          · rename_i nt
            cases e
            have nt : some k ∉ b.to := by simpa using nt
            obtain ⟨w1, w2, o, w3, _, w5⟩ := w
            refine ⟨fs, cpb, h.val (x := .bo d) fs (fun _ z => z) (k :: b.ln) (fun _ z => List.mem_cons_of_mem _ z) (fun j hj => ?_) (.con w1 w3 w5 w2 (.inr ⟨k, hk, .inr List.mem_cons_self⟩)), fun y z => .inl z, .refl _⟩
            rcases List.mem_cons.mp hj with z | z
            · rw [z]; exact nt
            · exact h.dis j z
        · split at e
          · cases e
          · rename_i nt
            cases e
            have nt : ¬ (some k ∈ b.to ∨ k ∈ b.ln) := by simpa using nt
            refine ⟨fs, cpb ++ [a], h.cell fs (fun _ z => z) w (fun z => ?_) (.inr ⟨k, d, rfl, hk, hc, fun z => nt (.inr z)⟩), fun y z => .inl z, .app _ _⟩
            obtain ⟨i, hi⟩ := List.getElem?_of_mem z
            rcases h.mem i a hi with ⟨k', e1, e2⟩ | ⟨_, e2⟩
            · have : k = k' := cp_inj m.c hk e2
              subst this
              exact nt (.inl (List.mem_of_getElem? e1))
            · exact hfc _ e2 a rfl (List.mem_of_getElem? hk)
theorem binds_ok (m0 : Sim K g0 s0 σ H0) (t : Stp g0 H0 g H) (m : Sim K g s σ H) (sl : s.sl = s0.sl) : ∀ {ms : List Bool} {ps : List P} {ws vs fs : List V} {b b' : Bd} {cpb : List Addr},
    OpRs K g H ws ps → PbIs K σ s.sl ws ps → (∀ v ∈ frs ws ps, ∀ a, v = .ref a → H0 a = none) → (frs ws ps).Nodup → (∀ x ∈ frs ws ps, x ∉ fs) → (∀ x ∈ fs, ∀ a, x = .ref a → a ∉ g.cp ∧ H0 a = none) →
    BI K g H H0 s vs fs b cpb → binds ms ps s b = some b' →
    ∃ fs' cpb', BI K g H H0 s (vs ++ ws) fs' b' cpb' ∧ (∀ x ∈ fs', ∀ a, x = .ref a → a ∉ g.cp ∧ H0 a = none) := by
  have go : ∀ {l : Bool} {ms : List Bool} {ps : List P} {ws vs fs : List V} {b x b' : Bd} {cpb : List Addr} {p : P} {w : V},
    (∀ {vs fs : List V} {b b' : Bd} {cpb : List Addr}, (∀ x ∈ frs ws ps, x ∉ fs) → (∀ x ∈ fs, ∀ a, x = .ref a → a ∉ g.cp ∧ H0 a = none) → BI K g H H0 s vs fs b cpb → binds ms ps s b = some b' →
      ∃ fs' cpb', BI K g H H0 s (vs ++ ws) fs' b' cpb' ∧ (∀ x ∈ fs', ∀ a, x = .ref a → a ∉ g.cp ∧ H0 a = none)) →
    OpR' K g H w p → PbI K σ s.sl w p → (∀ v ∈ frs (w :: ws) (p :: ps), ∀ a, v = .ref a → H0 a = none) → (frs (w :: ws) (p :: ps)).Nodup → (∀ x ∈ frs (w :: ws) (p :: ps), x ∉ fs) → (∀ x ∈ fs, ∀ a, x = .ref a → a ∉ g.cp ∧ H0 a = none) →
    BI K g H H0 s vs fs b cpb → bind1 l p s b = some x → binds ms ps s x = some b' →
    ∃ fs' cpb', BI K g H H0 s (vs ++ (w :: ws)) fs' b' cpb' ∧ (∀ x ∈ fs', ∀ a, x = .ref a → a ∉ g.cp ∧ H0 a = none) := by
    intro l ms ps ws vs fs b x b' cpb p w ih o pi h0 nd hx hf bi e1 e2
    have mem : (∃ d, p = .pv d true) → w ∈ frs (w :: ws) (p :: ps) := fun ⟨d, ed⟩ => by
      subst ed
      unfold frs
      rw [List.zip_cons_cons, List.filterMap_cons]
      exact List.mem_cons_self
    have fi : FrI H0 w p := by
      cases p with
      | pv d' f =>
        cases f with
        | false => exact trivial
        | true => exact fun a ea => h0 w (mem ⟨_, rfl⟩) a ea
      | _ => exact trivial
    obtain ⟨fs1, cpb1, bi1, s1, _⟩ := bind1_ok m0 t m sl o fi pi (fun z => hx w (mem z)) (fun x z a ea => (hf x z a ea).1) bi e1
    have hf1 : ∀ x ∈ fs1, ∀ a, x = .ref a → a ∉ g.cp ∧ H0 a = none := fun x z a ea => by
      rcases s1 x z with z | ⟨z, d, ed⟩
      · exact hf x z a ea
      · subst z ed
        refine ⟨?_, h0 x (mem ⟨_, rfl⟩) a ea⟩
        subst ea
        cases o with
        | fr _ _ _ _ _ hc _ => exact hc
    obtain ⟨fs2, cpb2, bi2, hf2⟩ := ih (fun x z hz => by
      rcases s1 x hz with z' | ⟨z', d, ed⟩
      · exact hx x (frs_sub z) z'
      · subst z' ed
        exact frs_hd nd z) hf1 bi1 e2
    refine ⟨fs2, cpb2, ?_, hf2⟩
    have ea : vs ++ (w :: ws) = (vs ++ [w]) ++ ws := by simp
    rw [ea]
    exact bi2
  intro ms ps
  induction ps generalizing ms with
  | nil =>
    intro ws vs fs b b' cpb o _ _ _ _ hf bi e
    cases o
    have e' : some b = some b' := by cases ms <;> exact e
    cases e'
    rw [List.append_nil]
    exact ⟨fs, cpb, bi, hf⟩
  | cons p ps ih =>
    intro ws vs fs b b' cpb o pi h0 nd hx hf bi e
    cases o with
    | cons o r =>
      cases pi with
      | cons pi pr =>
        cases ms with
        | nil =>
          simp only [binds] at e
          cases e1 : bind1 false p s b with
          | none => rw [e1] at e; cases e
          | some x =>
            rw [e1] at e
            exact go (fun hx hf bi e => ih r pr (fun v z => h0 v (frs_sub z)) (frs_nd nd) hx hf bi e) o pi h0 nd hx hf bi e1 e
        | cons q ms =>
          simp only [binds] at e
          cases e1 : bind1 q p s b with
          | none => rw [e1] at e; cases e
          | some x =>
            rw [e1] at e
            exact go (fun hx hf bi e => ih r pr (fun v z => h0 v (frs_sub z)) (frs_nd nd) hx hf bi e) o pi h0 nd hx hf bi e1 e

theorem backs_get : ∀ (to : List (Option Nat)) (cs : List Cel) (ce : List Cel) (j : Nat) (c : Cel), (backs to cs ce)[j]? = some c →
    (ce[j]? = some c ∧ ∀ i : Nat, to[i]? = some (some j) → cs.length ≤ i) ∨ ∃ i : Nat, to[i]? = some (some j) ∧ cs[i]? = some c
  | [], cs, ce, j, c, h => by simp only [backs] at h; exact .inl ⟨h, fun i e => by simp at e⟩
  | none :: r, [], ce, j, c, h => by simp only [backs] at h; exact .inl ⟨h, fun i _ => Nat.zero_le _⟩
  | some k :: r, [], ce, j, c, h => by simp only [backs] at h; exact .inl ⟨h, fun i _ => Nat.zero_le _⟩
  | none :: r, x :: cs, ce, j, c, h => by
    simp only [backs] at h
    rcases backs_get r cs ce j c h with ⟨z, z'⟩ | ⟨i, z1, z2⟩
    · refine .inl ⟨z, fun i e => ?_⟩
      cases i with
      | zero => cases e
      | succ i => exact Nat.succ_le_succ (z' i e)
    · exact .inr ⟨i + 1, z1, z2⟩
  | some k :: r, x :: cs, ce, j, c, h => by
    simp only [backs] at h
    rcases backs_get r cs _ j c h with ⟨z, z'⟩ | ⟨i, z1, z2⟩
    · by_cases q : k = j
      · subst q
        have hlt := (List.getElem?_eq_some_iff.mp z).1
        rw [List.length_set] at hlt
        rw [List.getElem?_set_self hlt] at z
        cases z
        exact .inr ⟨0, rfl, rfl⟩
      · rw [List.getElem?_set_ne q] at z
        refine .inl ⟨z, fun i e => ?_⟩
        cases i with
        | zero =>
          have e : some (some k) = some (some j) := e
          cases e
          exact absurd rfl q
        | succ i => exact Nat.succ_le_succ (z' i e)
    · exact .inr ⟨i + 1, z1, z2⟩
theorem backs_len : ∀ (to : List (Option Nat)) (cs : List Cel) (ce : List Cel), (backs to cs ce).length = ce.length
  | [], cs, ce => by simp only [backs]
  | none :: r, [], ce => by simp only [backs]
  | some k :: r, [], ce => by simp only [backs]
  | none :: r, x :: cs, ce => by simp only [backs]; exact backs_len r cs ce
  | some k :: r, x :: cs, ce => by simp only [backs]; rw [backs_len r cs]; simp
end
/-- a def's run -/
def PoF (Z : Pm) (g : Gh) (H : Hp) (r : Rf) (Q : VK) (E : XK) : Prop :=
  match r with
  | .ok d fr ce ob => ∀ g' H' v, Stp g H g' H' → SimC g' ce ob H' → OpR' Z.K g' H' v (.pv d fr) → FrI H v (.pv d fr) → Q v H'
  | .ex x ce ob => ∀ g' H' cls dx, Stp g H g' H' → SimC g' ce ob H' → XcR Z.K Z.ec g' H' cls dx x → FrX H dx → E cls dx H'
  | .no => False
/-- a def's promise -/
def spF (Z : Pm) (C : Cl) (f np : Nat) : Sp := fun vs H Q E => vs.length = np ∧ ∃ g s, Sim Z.K g s (vs.map some) H ∧ PoF Z g H (C.fn f s.sl s.ce s.ob) Q E
section
variable {Z : Pm} {C : Cl} {g g0 g1 : Gh} {H H0 H1 : Hp} {s s0 s1 : St} {σ : L2.St} {v : V} {d : D}
/-- the caller's cells behind a call -/
theorem call_ok {f np : Nat} {vs : List V} {ps : List P} {Q : VK} (m0 : Sim Z.K g0 s0 σ H0) (t : Stp g0 H0 g H) (m : Sim Z.K g s σ H) (sl : s.sl = s0.sl) (rl : RlA Z.K σ s.sl g H0 H vs ps) (hl : vs.length = np)
    (h : Po Z σ g0 H0 (RlE Z.K σ s.sl) (callF C f ps s) Q) : spF Z C f np vs H Q (WE Z.W σ) := by
  obtain ⟨o, h0, nd, pi⟩ := rl
  refine ⟨hl, ?_⟩
  unfold callF at h
  cases e : binds (C.mo f) ps s ⟨[], [], [], []⟩ with
  | none => rw [e] at h; exact h.elim
  | some b =>
    rw [e] at h
    have bi0 : BI Z.K g H H0 s [] [] ⟨[], [], [], []⟩ [] := ⟨rfl, rfl, rfl, fun i c a e => by simp at e, List.nodup_nil, fun i c e => by simp at e, fun i k e => by simp at e, fun i a e => by simp at e, fun i x e => by simp at e, fun k hk => by simp at hk⟩
    obtain ⟨fs, cpb, bi, hf⟩ := binds_ok m0 t m sl o pi h0 nd (fun x _ => by simp) (fun x z => by simp at z) bi0 e
    rw [List.nil_append] at bi
    have hcp : ∀ a ∈ cpb, (∃ (i k : Nat) (d : D), b.to[i]? = some (some k) ∧ cpb[i]? = some a ∧ g.cp[k]? = some a ∧ s.ce[k]? = some (.ow d)) ∨ (a ∉ g.cp ∧ H0 a = none) := fun a ha => by
      obtain ⟨i, hi⟩ := List.getElem?_of_mem ha
      rcases bi.mem i a hi with ⟨k, e1, e2⟩ | ⟨_, e2⟩
      · obtain ⟨a', d, e3, e4, e5⟩ := bi.to i k e1
        exact .inl ⟨i, k, d, e1, hi, e2, e5⟩
      · exact .inr (hf _ e2 a rfl)
    have nr : ∀ a, a ∉ g.ρ := fun a z => by rw [m.c.ob.2] at z; cases z
    have wc : SimC ⟨g.ρ, g.F, cpb⟩ b.ce s.ob H := ⟨m.c.ex, bi.l1, fun k c a e1 e2 => by
      have w := bi.cel k c a e1 e2
      cases c with
      | ow _ => exact w
      | he _ => exact w
      | fz _ => exact w, bi.nd, m.c.ρF, fun a z => absurd z (nr a), m.c.ob⟩
    refine ⟨⟨g.ρ, g.F, cpb⟩, ⟨b.sl, b.ce, s.ob⟩, ⟨wc, by rw [List.length_map]; exact bi.sl, fun i x ex => ?_⟩, ?_⟩
    · obtain ⟨w, e1, e2⟩ := bi.slot i x ex
      have e1 : (vs.map some)[i]? = some (some w) := by rw [List.getElem?_map, e1]; rfl
      cases x with
      | un => exact e2.elim
      | va d => exact ⟨w, e1, e2⟩
      | ce j =>
        obtain ⟨a, ea, e3⟩ := e2
        exact ⟨a, by rw [e1, ea], e3⟩
      | bo d =>
        refine ⟨w, e1, ?_⟩
        have e2 : BoL Z.K g H H0 b.ln s w d := e2
        cases e2 with
        | rep r => exact .rep r
        | wr a b c => exact .wr a b c
        | ws a b c => exact .ws a b c
        | con c hh r hF hw =>
          refine .con c hh r hF (fun z => ?_) (nr _)
          rcases hcp _ z with ⟨i', k', d', e3, e4, e5, e6⟩ | ⟨e3, e4⟩
          · rcases hw with ⟨_, hw⟩ | ⟨k, e7, e8⟩
            · exact hw (List.mem_of_getElem? e5)
            · have : k = k' := cp_inj m.c e7 e5
              subst this
              rcases e8 with ⟨x', e8⟩ | e8
              · rw [e6] at e8; cases e8
              · exact bi.dis k e8 (List.mem_of_getElem? e3)
          · rcases hw with ⟨⟨u, hw⟩, _⟩ | ⟨k, e7, _⟩
            · rw [hw] at e4; cases e4
            · exact e3 (List.mem_of_getElem? e7)
    · have stp : ∀ {g' : Gh} {H' : Hp}, Stp ⟨g.ρ, g.F, cpb⟩ H g' H' → g'.ρ = [] → Stp g0 H0 ⟨g'.ρ, g'.F, g.cp⟩ H' := fun {g' H'} tc hr => {
        ρ := t.ρ.trans tc.ρ
        F := t.F.trans tc.F
        cp := t.cp
        fr := fun a o ha hc hρ => by
          refine tc.fr a o (t.fr a o ha hc hρ) (fun z => ?_) (nr a)
          rcases hcp a z with ⟨i, k, d, _, _, e5, _⟩ | ⟨_, e4⟩
          · rcases t.nc a (List.mem_of_getElem? e5) with z | z
            · exact hc z
            · rw [ha] at z; cases z
          · rw [ha] at e4; cases e4
        th := fun a o ha => let ⟨o1, h1⟩ := t.th a o ha; tc.th a o1 h1
        nF := fun a o ha => by
          rcases tc.nF a o ha with z | z | z
          · exact t.nF a o z
          · refine .inr (.inl ?_)
            cases q : H0 a with
            | none => rfl
            | some u =>
              obtain ⟨o1, h1⟩ := t.th a u q
              rw [z] at h1; cases h1
          · rcases hcp a z with ⟨i, k, d, _, _, e5, _⟩ | ⟨_, e4⟩
            · rcases t.nc a (List.mem_of_getElem? e5) with z | z
              · exact .inr (.inr z)
              · exact .inr (.inl z)
            · exact .inr (.inl e4)
        nc := t.nc
        nρ := fun a ha => by
          have ha : a ∈ g'.ρ := ha
          rw [hr] at ha; cases ha }
      have sim : ∀ {g' : Gh} {H' : Hp} {ce : List Cel} {ob : List Ob}, Stp ⟨g.ρ, g.F, cpb⟩ H g' H' → SimC g' ce ob H' → Sim Z.K ⟨g'.ρ, g'.F, g.cp⟩ { s with ce := backs b.to ce s.ce, ob := ob } σ H' := fun {g' H' ce ob} tc c' => by
        have cc : SimC ⟨g'.ρ, g'.F, g.cp⟩ (backs b.to ce s.ce) ob H' := by
          refine ⟨c'.ex, by rw [backs_len]; exact m.c.cn, fun j c a e1 e2 => ?_, m.c.cnd, fun a z => ?_, fun a z => ?_, c'.ob⟩
          · rcases backs_get _ _ _ _ _ e1 with ⟨e3, e4⟩ | ⟨i, e3, e4⟩
            · have hn : a ∉ cpb := fun z => by
                rcases hcp a z with ⟨i, k, d, f1, f2, f3, _⟩ | ⟨f1, _⟩
                · have : j = k := cp_inj m.c e2 f3
                  subst this
                  have l1 := e4 i f1
                  have l2 := (List.getElem?_eq_some_iff.mp (tc.cp _ _ f2)).1
                  have l3 := c'.cn
                  omega
                · exact f1 (List.mem_of_getElem? e2)
              have w := m.c.cel j c a e3 e2
              have keep : ∀ o, H a = some o → g.F a = none → H' a = some o ∧ g'.F a = none := fun o ho hF => by
                obtain ⟨k1, k2, _⟩ := tc.keepF ho hF hn (nr a)
                exact ⟨k1, k2⟩
              cases c with
              | ow d =>
                obtain ⟨w1, w2, o, w3, w4, w5⟩ := w
                obtain ⟨k1, k2⟩ := keep o w3 w2
                exact ⟨w1, k2, o, k1, w4, w5.mono tc.ρ tc.F⟩
              | he d =>
                obtain ⟨w1, w2, o, w3, w4, w5⟩ := w
                obtain ⟨k1, k2⟩ := keep o w3 w2
                exact ⟨w1, k2, o, k1, w4, w5.mono tc.ρ tc.F⟩
              | fz d => exact Rep.mono tc.ρ tc.F w
            · obtain ⟨a', d', e5, e6, _⟩ := bi.to i j e3
              have e2 : g.cp[j]? = some a := e2
              rw [e2] at e6
              cases e6
              have w := c'.cel i c a e4 (tc.cp _ _ e5)
              cases c with
              | ow _ => exact w
              | he _ => exact w
              | fz _ => exact w
          · have z : a ∈ g'.ρ := z
            rw [c'.ob.2] at z; cases z
          · have z : a ∈ g'.ρ := z
            rw [c'.ob.2] at z; cases z
        have mm := Sim.of0 m0 (stp tc c'.ob.2) cc
        rw [← sl] at mm
        exact mm
      have ncp : ∀ a, H a = none → a ∉ g.cp := fun a ha z => by
        obtain ⟨u, e⟩ := m.wf.cp a z
        rw [ha] at e; cases e
      show PoF Z ⟨g.ρ, g.F, cpb⟩ H (C.fn f b.sl b.ce s.ob) Q (WE Z.W σ)
      cases q : C.fn f b.sl b.ce s.ob with
      | no =>
        simp only [q] at h
        exact h.elim
      | ok d fr ce ob =>
        simp only [q] at h
        intro g' H' v tc c' o' fi'
        refine h _ H' v (stp tc c'.ob.2) (sim tc c') ⟨?_, fi'.back t, trivial⟩
        cases o' with
        | va r => exact .va r
        | fr c ho mu r hF hc hρ => exact .fr c ho mu r hF (ncp _ (fi' _ rfl)) hρ
      | ex x ce ob =>
        simp only [q] at h
        intro g' H' cls dx tc c' xr fx
        refine h _ H' cls dx (stp tc c'.ob.2) (sim tc c') ?_ (fx.back t)
        cases xr with
        | mk h1 h2 h3 h4 h5 h6 h7 => exact .mk h1 h2 h3 h4 h5 (ncp _ (fx _ rfl)) h7
        | mk0 h1 => exact .mk0 h1
end
end Pv

set_option Elab.async false
set_option linter.all false
set_option maxRecDepth 100000
namespace Pv
open PySem L2 PyProof.Rows

section
variable {Z : Pm} {C : Cl} {σ : L2.St} {g : Gh} {H : Hp} {s : St} {β' α' : Type}
/-- an expression, then the rest -/
theorem Po.seq {Rs : List Slot → Gh → Hp → Hp → β' → α' → Prop} (hs : ∀ sl, RlS (Rs sl)) {e : E} {f : P → St → R α'} {Q : β' → Hp → Prop} {Q1 : VK} (h : Po Z σ g H (Rs s.sl) ((ev C e s).bind f) Q)
    (k : ∀ v H1 g1 s1 p, ev C e s = .ok p s1 → Stp g H g1 H1 → Sim Z.K g1 s1 σ H1 → RlE Z.K σ s.sl g1 H H1 v p → s1.sl = s.sl → Po Z σ g1 H1 (Rs s1.sl) (f p s1) Q → Q1 v H1) : Po Z σ g H (RlE Z.K σ s.sl) (ev C e s) Q1 :=
  Po.bind' h fun v H1 g1 s1 p e1 t m rl h1 => k v H1 g1 s1 p e1 t m rl (ev_fx e e1).sl (by rw [(ev_fx e e1).sl]; exact Po.step (hs _) t h1)
theorem Po.seqT {Rs : List Slot → Gh → Hp → Hp → β' → α' → Prop} (hs : ∀ sl, RlS (Rs sl)) {e : E} {f : Bool → St → R α'} {Q : β' → Hp → Prop} {Q1 : Bool → Hp → Prop} (h : Po Z σ g H (Rs s.sl) ((evT C e s).bind f) Q)
    (k : ∀ H1 g1 s1 b, evT C e s = .ok b s1 → Stp g H g1 H1 → Sim Z.K g1 s1 σ H1 → s1.sl = s.sl → Po Z σ g1 H1 (Rs s1.sl) (f b s1) Q → Q1 b H1) : Po Z σ g H RlB (evT C e s) Q1 :=
  Po.bind' h fun v H1 g1 s1 p e1 t m rl h1 => by
    have rl : v = p := rl
    subst rl
    exact k H1 g1 s1 v e1 t m (evT_fx e e1).sl (by rw [(evT_fx e e1).sl]; exact Po.step (hs _) t h1)
theorem Po.seqA {Rs : List Slot → Gh → Hp → Hp → β' → α' → Prop} (hs : ∀ sl, RlS (Rs sl)) {e : Es} {f : List P → St → R α'} {Q : β' → Hp → Prop} {Q1 : List V → Hp → Prop} (h : Po Z σ g H (Rs s.sl) ((evs C e s).bind f) Q)
    (k : ∀ vs H1 g1 s1 ps, evs C e s = .ok ps s1 → Stp g H g1 H1 → Sim Z.K g1 s1 σ H1 → RlA Z.K σ s.sl g1 H H1 vs ps → s1.sl = s.sl → Po Z σ g H (Rs s.sl) (f ps s1) Q → Q1 vs H1) : Po Z σ g H (RlA Z.K σ s.sl) (evs C e s) Q1 :=
  Po.bind' h fun v H1 g1 s1 p e1 t m rl h1 => k v H1 g1 s1 p e1 t m rl (evs_fx e e1).sl h1
theorem Po.seqO {Rs : List Slot → Gh → Hp → Hp → β' → α' → Prop} (hs : ∀ sl, RlS (Rs sl)) {e : Oe} {f : Option Int → St → R α'} {Q : β' → Hp → Prop} {Q1 : Option Int → Hp → Prop} (h : Po Z σ g H (Rs s.sl) ((evo C e s).bind f) Q)
    (k : ∀ H1 g1 s1 b, evo C e s = .ok b s1 → Stp g H g1 H1 → Sim Z.K g1 s1 σ H1 → s1.sl = s.sl → Po Z σ g1 H1 (Rs s1.sl) (f b s1) Q → Q1 b H1) : Po Z σ g H RlO (evo C e s) Q1 :=
  Po.bind' h fun v H1 g1 s1 p e1 t m rl h1 => by
    have rl : v = p := rl
    subst rl
    exact k H1 g1 s1 v e1 t m (evo_fx e e1).sl (by rw [(evo_fx e e1).sl]; exact Po.step (hs _) t h1)
theorem Po.bindS {α β : Type} {g1 : Gh} {H1 : Hp} {Rl : Gh → Hp → Hp → β → α → Prop} {Rl' : Gh → Hp → Hp → β' → α' → Prop} {r : R α} {f : α → St → R α'} {Q : β' → Hp → Prop} {Q1 : β → Hp → Prop} (h : Po Z σ g H Rl' (r.bind f) Q) (t1 : Stp g H g1 H1)
    (k : ∀ b1 H2 g2 s2 a, r = .ok a s2 → Stp g1 H1 g2 H2 → Sim Z.K g2 s2 σ H2 → Rl g2 H1 H2 b1 a → Po Z σ g H Rl' (f a s2) Q → Q1 b1 H2) : Po Z σ g1 H1 Rl r Q1 := by
  cases r with
  | ok a s' => exact fun g' H' b t m rl => k b H' g' s' a rfl t m rl h
  | ex x s' => exact fun g' H' cls dx t m xr fx => h g' H' cls dx (t1.trans t) m xr (fx.back t1)
  | no => exact h
abbrev rsE (Z : Pm) (σ : L2.St) : List Slot → Gh → Hp → Hp → V → P → Prop := fun sl => RlE Z.K σ sl
abbrev rsB : List Slot → Gh → Hp → Hp → Bool → Bool → Prop := fun _ => RlB
theorem rsE_ok : ∀ sl, RlS (rsE Z σ sl) := fun _ => rlE
theorem rsB_ok : ∀ sl : List Slot, RlS (rsB sl) := fun _ => rlB
end
theorem op1_inv {f : D → Option (D × Bool)} {s : St} {p : P} {r : P} (h : op1 f s p = some r) : ∃ x y, deref s p = some x ∧ f x = some y ∧ r = .pv y.1 y.2 := by
  obtain ⟨x, h1, h2⟩ := Option.bind_eq_some_iff.mp h
  obtain ⟨y, h3, h4⟩ := Option.map_eq_some_iff.mp h2
  exact ⟨x, y, h1, h3, h4.symm⟩
theorem op2_inv {f : D → D → Option (D × Bool)} {s : St} {p q : P} {r : P} (h : op2 f s p q = some r) : ∃ x y z, deref s p = some x ∧ deref s q = some y ∧ f x y = some z ∧ r = .pv z.1 z.2 := by
  obtain ⟨x, h1, h⟩ := Option.bind_eq_some_iff.mp h
  obtain ⟨y, h2, h⟩ := Option.bind_eq_some_iff.mp h
  obtain ⟨z, h3, h4⟩ := Option.map_eq_some_iff.mp h
  exact ⟨x, y, z, h1, h2, h3, h4.symm⟩
theorem cmp2_inv {o : CmpOp} {s : St} {p q : P} {r : Bool} (h : cmp2 o s p q = some r) : ∃ x y, deref s p = some x ∧ deref s q = some y ∧ cmpD o x y = some r := by
  obtain ⟨x, h1, h⟩ := Option.bind_eq_some_iff.mp h
  obtain ⟨y, h2, h⟩ := Option.bind_eq_some_iff.mp h
  exact ⟨x, y, h1, h2, h⟩
theorem isBl_inv {o : Option D} {b : Bool} (h : o.bind isBl = some b) : o = some (.bl b) := by
  obtain ⟨x, h1, h2⟩ := Option.bind_eq_some_iff.mp h
  cases x <;> cases h2
  exact h1
theorem isI_inv {o : Option D} {b : Int} (h : o.bind isI = some b) : o = some (.int b) := by
  obtain ⟨x, h1, h2⟩ := Option.bind_eq_some_iff.mp h
  cases x <;> cases h2
  exact h1

section
variable {Z : Pm} {C : Cl} {X : Cx} {a b c : Expr} {ea eb ec : E} {pos : Pos}

theorem e_bin {o : Operator} (hK : X.K = Z.K) (ha : PE X a (tE Z C ea)) (hb : PE X b (tE Z C eb)) : PE X (.BinOp a o b pos) (tE Z C (.bin o ea eb)) := by
  refine PE.im (pe_op (op_bin o) ha hb) ?_
  rintro σ H Q ⟨g, s, m, h⟩
  simp only [ev] at h
  refine ⟨g, s, m, Po.seq rsE_ok h fun v H1 g1 s1 p e1 t1 m1 rl1 l1 h1 => ⟨g1, s1, m1, Po.seq rsE_ok h1 fun w H2 g2 s2 q e2 t2 m2 rl2 l2 h2 => ?_⟩⟩
  obtain ⟨r, er, h3⟩ := Po.ret h2
  obtain ⟨x, y, z, d1, d2, f, rfl⟩ := op2_inv er
  rw [hK]
  exact ⟨g2, x, y, z, m2.wf, OpR'.pk m2 (rl1.1.mono t2) d1, OpR'.pk m2 rl2.1 d2, f, Po.out m2 h3⟩
theorem e_cmp {o : CmpOp} (hK : X.K = Z.K) (hu : X.A.units + 65 < cLine) (ha : PE X a (tE Z C ea)) (hb : PE X b (tE Z C eb)) (hm : behindInMarks o b = false) : PE X (.Compare a [o] [b] pos) (tE Z C (.cmp o ea eb)) := by
  refine PE.im (pe_cmpR (op_cmp hu o) ha hb hm) ?_
  rintro σ H Q ⟨g, s, m, h⟩
  simp only [ev] at h
  refine ⟨g, s, m, Po.seq rsE_ok h fun v H1 g1 s1 p e1 t1 m1 rl1 l1 h1 => ⟨g1, s1, m1, Po.seq rsE_ok h1 fun w H2 g2 s2 q e2 t2 m2 rl2 l2 h2 => ?_⟩⟩
  obtain ⟨r, er, h3⟩ := Po.ret h2
  obtain ⟨k, er2, rfl⟩ := Option.map_eq_some_iff.mp er
  obtain ⟨x, y, d1, d2, f⟩ := cmp2_inv er2
  rw [hK]
  exact ⟨g2, x, y, k, m2.wf, OpR'.pk m2 (rl1.1.mono t2) d1, OpR'.pk m2 rl2.1 d2, f, Po.bl m2 h3⟩
theorem t_cmp {o : CmpOp} (hK : X.K = Z.K) (hu : X.A.units + 65 < cLine) (ha : PE X a (tE Z C ea)) (hb : PE X b (tE Z C eb)) (hm : behindInMarks o b = false) : PT X (.Compare a [o] [b] pos) (tT Z C (.cmp o ea eb)) := by
  refine PT.im (pt_cmpR (op_cmp hu o) ha hb hm) ?_
  rintro σ H Q ⟨g, s, m, h⟩
  simp only [evT] at h
  refine ⟨g, s, m, Po.seq rsB_ok h fun v H1 g1 s1 p e1 t1 m1 rl1 l1 h1 => ⟨g1, s1, m1, Po.seq rsB_ok h1 fun w H2 g2 s2 q e2 t2 m2 rl2 l2 h2 => ?_⟩⟩
  obtain ⟨k, er, h3⟩ := Po.ret h2
  obtain ⟨x, y, d1, d2, f⟩ := cmp2_inv er
  rw [hK]
  exact ⟨g2, x, y, k, m2.wf, OpR'.pk m2 (rl1.1.mono t2) d1, OpR'.pk m2 rl2.1 d2, f, k, rfl, h3 g2 H2 k (.refl _ _) m2 rfl⟩
theorem e_chn {o o' : CmpOp} (hK : X.K = Z.K) (hu : X.A.units + 65 < cLine) (ha : PE X a (tE Z C ea)) (hb : PE X b (tE Z C eb)) (hc : PE X c (tE Z C ec)) (hm : lastMarks [o, o'] [b, c] = false) :
    PE X (.Compare a [o, o'] [b, c] pos) (tE Z C (.chn o o' ea eb ec)) := by
  refine PE.im (pe_chain (op_cmp hu o) (op_cmp hu o') ha hb hc hm) ?_
  rintro σ H Q ⟨g, s, m, h⟩
  simp only [ev] at h
  refine ⟨g, s, m, Po.seq rsE_ok h fun v H1 g1 s1 p e1 t1 m1 rl1 l1 h1 => ⟨g1, s1, m1, Po.seq rsE_ok h1 fun w H2 g2 s2 q e2 t2 m2 rl2 l2 h2 => ?_⟩⟩
  obtain ⟨k, er, h3⟩ := Po.of h2
  obtain ⟨x, y, d1, d2, f⟩ := cmp2_inv er
  rw [hK]
  refine ⟨g2, x, y, k, m2.wf, OpR'.pk m2 (rl1.1.mono t2) d1, OpR'.pk m2 rl2.1 d2, f, k, rfl, ?_⟩
  cases k with
  | false =>
    rw [if_neg Bool.false_ne_true] at h3 ⊢
    exact Po.bl m2 h3
  | true =>
    rw [if_pos rfl] at h3 ⊢
    refine ⟨g2, s2, m2, Po.seq rsE_ok h3 fun u H3 g3 s3 r e3 t3 m3 rl3 l3 h4 => ?_⟩
    obtain ⟨r', er', h5⟩ := Po.ret h4
    obtain ⟨k', er2, rfl⟩ := Option.map_eq_some_iff.mp er'
    obtain ⟨x', y', d3, d4, f'⟩ := cmp2_inv er2
    exact ⟨g3, x', y', k', m3.wf, OpR'.pk m3 (rl2.1.mono t3) d3, OpR'.pk m3 rl3.1 d4, f', Po.bl m3 h5⟩
theorem t_chn {o o' : CmpOp} (hK : X.K = Z.K) (hu : X.A.units + 65 < cLine) (ha : PE X a (tE Z C ea)) (hb : PE X b (tE Z C eb)) (hc : PE X c (tE Z C ec)) (hm : lastMarks [o, o'] [b, c] = false) :
    PT X (.Compare a [o, o'] [b, c] pos) (tT Z C (.chn o o' ea eb ec)) := by
  refine PT.im (pt_chain (op_cmp hu o) (op_cmp hu o') ha hb hc hm) ?_
  rintro σ H Q ⟨g, s, m, h⟩
  simp only [evT] at h
  refine ⟨g, s, m, Po.seq rsB_ok h fun v H1 g1 s1 p e1 t1 m1 rl1 l1 h1 => ⟨g1, s1, m1, Po.seq rsB_ok h1 fun w H2 g2 s2 q e2 t2 m2 rl2 l2 h2 => ?_⟩⟩
  obtain ⟨k, er, h3⟩ := Po.of h2
  obtain ⟨x, y, d1, d2, f⟩ := cmp2_inv er
  rw [hK]
  refine ⟨g2, x, y, k, m2.wf, OpR'.pk m2 (rl1.1.mono t2) d1, OpR'.pk m2 rl2.1 d2, f, k, rfl, ?_⟩
  cases k with
  | false =>
    rw [if_neg Bool.false_ne_true] at h3 ⊢
    exact ⟨false, rfl, h3 g2 H2 false (.refl _ _) m2 rfl⟩
  | true =>
    rw [if_pos rfl] at h3 ⊢
    refine ⟨g2, s2, m2, Po.seq rsB_ok h3 fun u H3 g3 s3 r e3 t3 m3 rl3 l3 h4 => ?_⟩
    obtain ⟨k', er', h5⟩ := Po.ret h4
    obtain ⟨x', y', d3, d4, f'⟩ := cmp2_inv er'
    exact ⟨g3, x', y', k', m3.wf, OpR'.pk m3 (rl2.1.mono t3) d3, OpR'.pk m3 rl3.1 d4, f', k', rfl, h5 g3 H3 k' (.refl _ _) m3 rfl⟩
theorem e_neg (hK : X.K = Z.K) (ha : PE X a (tE Z C ea)) : PE X (.UnaryOp .USub a pos) (tE Z C (.neg ea)) := by
  refine PE.im (pe_un un_neg ha) ?_
  rintro σ H Q ⟨g, s, m, h⟩
  simp only [ev] at h
  refine ⟨g, s, m, Po.seq rsE_ok h fun v H1 g1 s1 p e1 t1 m1 rl1 l1 h1 => ?_⟩
  obtain ⟨r, er, h3⟩ := Po.ret h1
  obtain ⟨x, y, d1, f, rfl⟩ := op1_inv er
  obtain ⟨i, f1, f2⟩ := Option.map_eq_some_iff.mp f
  have d2 : deref s1 p = some (.int i) := by
    cases x <;> cases f1
    exact d1
  subst f2
  exact ⟨i, (OpR'.pk m1 rl1.1 d2).int, (Po.out m1 h3).val m1.wf (.int _)⟩
/-- a value that is a truth -/
theorem bl_of {g : Gh} {H : Hp} {s : St} {σ : L2.St} {v : V} {p : P} {k : Bool} (m : Sim Z.K g s σ H) (o : OpR' Z.K g H v p) (h : (deref s p).bind isBl = some k) : v = .bl k := (OpR'.pk m o (isBl_inv h)).bl
theorem e_not (ha : PE X a (tE Z C ea)) : PE X (.UnaryOp .Not a pos) (tE Z C (.not ea)) := by
  refine PE.im (pe_not ha) ?_
  rintro σ H Q ⟨g, s, m, h⟩
  simp only [ev] at h
  refine ⟨g, s, m, Po.seq rsE_ok h fun v H1 g1 s1 p e1 t1 m1 rl1 l1 h1 => ?_⟩
  obtain ⟨r, er, h3⟩ := Po.ret h1
  obtain ⟨k, er2, rfl⟩ := Option.map_eq_some_iff.mp er
  exact ⟨k, bl_of m1 rl1.1 er2, Po.bl m1 h3⟩
theorem t_not (ha : PT X a (tT Z C ea)) : PT X (.UnaryOp .Not a pos) (tT Z C (.not ea)) := by
  refine PT.im (pt_not ha) ?_
  rintro σ H Q ⟨g, s, m, h⟩
  simp only [evT] at h
  exact ⟨g, s, m, Po.seqT rsB_ok h fun H1 g1 s1 k e1 t1 m1 l1 h1 => h1 g1 H1 (!k) (.refl _ _) m1 rfl⟩
theorem e_and {rest : List Expr} (ha : PE X a (tE Z C ea)) (hb : PE X (.BoolOp .And (b :: rest) pos) (tE Z C eb)) : PE X (.BoolOp .And (a :: b :: rest) pos) (tE Z C (.and ea eb)) := by
  refine PE.im (pe_and ha hb) ?_
  rintro σ H Q ⟨g, s, m, h⟩
  simp only [ev] at h
  refine ⟨g, s, m, Po.seq rsE_ok h fun v H1 g1 s1 p e1 t1 m1 rl1 l1 h1 => ?_⟩
  obtain ⟨k, er, h3⟩ := Po.of h1
  refine ⟨k, bl_of m1 rl1.1 er, ?_⟩
  cases k with
  | false => rw [if_neg Bool.false_ne_true] at h3 ⊢; exact Po.bl m1 h3
  | true => rw [if_pos rfl] at h3 ⊢; exact ⟨g1, s1, m1, h3⟩
theorem e_or {rest : List Expr} (ha : PE X a (tE Z C ea)) (hb : PE X (.BoolOp .Or (b :: rest) pos) (tE Z C eb)) : PE X (.BoolOp .Or (a :: b :: rest) pos) (tE Z C (.or ea eb)) := by
  refine PE.im (pe_or ha hb) ?_
  rintro σ H Q ⟨g, s, m, h⟩
  simp only [ev] at h
  refine ⟨g, s, m, Po.seq rsE_ok h fun v H1 g1 s1 p e1 t1 m1 rl1 l1 h1 => ?_⟩
  obtain ⟨k, er, h3⟩ := Po.of h1
  refine ⟨k, bl_of m1 rl1.1 er, ?_⟩
  cases k with
  | true => rw [if_pos rfl] at h3 ⊢; exact Po.bl m1 h3
  | false => rw [if_neg Bool.false_ne_true] at h3 ⊢; exact ⟨g1, s1, m1, h3⟩
theorem w_and {rest : List Expr} (ha : PT X a (tT Z C ea)) (hb : PW X (.BoolOp .And (b :: rest) pos) (tT Z C eb)) : PW X (.BoolOp .And (a :: b :: rest) pos) (tT Z C (.and ea eb)) := by
  refine PW.im (pw_and ha hb) ?_
  rintro σ H Q ⟨g, s, m, h⟩
  simp only [evT] at h
  refine ⟨g, s, m, Po.seqT rsB_ok h fun H1 g1 s1 k e1 t1 m1 l1 h1 => ?_⟩
  cases k with
  | false => rw [if_neg Bool.false_ne_true] at h1 ⊢; exact h1 g1 H1 false (.refl _ _) m1 rfl
  | true => rw [if_pos rfl] at h1 ⊢; exact ⟨g1, s1, m1, h1⟩
theorem w_or {rest : List Expr} (ha : PT X a (tT Z C ea)) (hb : PW X (.BoolOp .Or (b :: rest) pos) (tT Z C eb)) : PW X (.BoolOp .Or (a :: b :: rest) pos) (tT Z C (.or ea eb)) := by
  refine PW.im (pw_or ha hb) ?_
  rintro σ H Q ⟨g, s, m, h⟩
  simp only [evT] at h
  refine ⟨g, s, m, Po.seqT rsB_ok h fun H1 g1 s1 k e1 t1 m1 l1 h1 => ?_⟩
  cases k with
  | true => rw [if_pos rfl] at h1 ⊢; exact h1 g1 H1 true (.refl _ _) m1 rfl
  | false => rw [if_neg Bool.false_ne_true] at h1 ⊢; exact ⟨g1, s1, m1, h1⟩
theorem e_ife (hc : PT X c (tT Z C ec)) (ha : PE X a (tE Z C ea)) (hb : PE X b (tE Z C eb)) : PE X (.IfExp c a b pos) (tE Z C (.ife ec ea eb)) := by
  refine PE.im (pe_ifExp hc ha hb) ?_
  rintro σ H Q ⟨g, s, m, h⟩
  simp only [ev] at h
  refine ⟨g, s, m, Po.seqT rsE_ok h fun H1 g1 s1 k e1 t1 m1 l1 h1 => ?_⟩
  cases k with
  | true => rw [if_pos rfl] at h1 ⊢; exact ⟨g1, s1, m1, h1⟩
  | false => rw [if_neg Bool.false_ne_true] at h1 ⊢; exact ⟨g1, s1, m1, h1⟩
theorem e_idx (hK : X.K = Z.K) (hu : X.A.units + 65 < cLine) (ha : PE X a (tE Z C ea)) (hb : PE X b (tE Z C eb)) (hp : PlainIx b) : PE X (.Subscript a b pos) (tE Z C (.idx ea eb)) := by
  refine PE.im (pe_ix (ix_D (by omega)) ha hb hp) ?_
  rintro σ H Q ⟨g, s, m, h⟩
  simp only [ev] at h
  refine ⟨g, s, m, Po.seq rsE_ok h fun v H1 g1 s1 p e1 t1 m1 rl1 l1 h1 => ⟨g1, s1, m1, Po.seq rsE_ok h1 fun w H2 g2 s2 q e2 t2 m2 rl2 l2 h2 => ?_⟩⟩
  obtain ⟨r, er, h3⟩ := Po.ret h2
  obtain ⟨x, y, z, d1, d2, f, rfl⟩ := op2_inv er
  obtain ⟨d, f2, rfl⟩ := Option.map_eq_some_iff.mp f
  rw [hK]
  exact ⟨g2, x, y, d, m2.wf, OpR'.pk m2 (rl1.1.mono t2) d1, OpR'.pk m2 rl2.1 d2, f2, Po.out m2 h3⟩
theorem e_slc {lo hi : Option Expr} {el eh : Oe} {p2 : Pos} (hK : X.K = Z.K) (ha : PE X a (tE Z C ea)) (hl : PO X lo (tO Z C el)) (hh : PO X hi (tO Z C eh)) : PE X (.Subscript a (.Slice lo hi none p2) pos) (tE Z C (.slc ea el eh)) := by
  refine PE.im (pe_slice sl_D ha hl hh) ?_
  rintro σ H Q ⟨g, s, m, h⟩
  simp only [ev] at h
  refine ⟨g, s, m, Po.seq rsE_ok h fun v H1 g1 s1 p e1 t1 m1 rl1 l1 h1 => ⟨g1, s1, m1, Po.seqO rsE_ok h1 fun H2 g2 s2 l e2 t2 m2 l2 h2 => ⟨g2, s2, m2, Po.seqO rsE_ok h2 fun H3 g3 s3 u e3 t3 m3 l3 h3 => ?_⟩⟩⟩
  obtain ⟨r, er, h4⟩ := Po.ret h3
  obtain ⟨x, y, d1, f, rfl⟩ := op1_inv er
  rw [hK]
  exact ⟨g3, x, y, m3.wf, OpR'.pk m3 ((rl1.1.mono t2).mono t3) d1, f, Po.out m3 h4⟩
theorem e_rev {k : Nat} {p1 p2 p3 : Pos} (hK : X.K = Z.K) (ha : PE X a (tE Z C ea)) : PE X (.Subscript a (.Slice none none (some (.UnaryOp .USub (.Constant (.int 1) k p1) p2)) p3) pos) (tE Z C (.rev ea)) := by
  refine PE.im (pe_revL ha) ?_
  rintro σ H Q ⟨g, s, m, h⟩
  simp only [ev] at h
  refine ⟨g, s, m, Po.seq rsE_ok h fun v H1 g1 s1 p e1 t1 m1 rl1 l1 h1 => ?_⟩
  obtain ⟨r, er, h3⟩ := Po.ret h1
  obtain ⟨x, y, d1, f, rfl⟩ := op1_inv er
  cases x with
  | lst xs =>
    cases f
    obtain ⟨b, vs, e, hb, r⟩ := (OpR'.pk m1 rl1.1 d1).lst m1.wf
    exact ⟨b, vs, e, .inl (.inl hb), (Po.out m1 h3).lst m1.wf r.reverse⟩
  | _ => cases f
theorem o_no : PO X none (tO Z C .no) := by
  refine PO.im po_none ?_
  rintro σ H Q ⟨g, s, m, h⟩
  exact h g H none (.refl _ _) m rfl
theorem o_so (ha : PE X a (tE Z C ea)) : PO X (some a) (tO Z C (.so ea)) := by
  refine PO.im (po_some ha) ?_
  rintro σ H Q ⟨g, s, m, h⟩
  simp only [evo] at h
  refine ⟨g, s, m, Po.seq (Rs := fun _ => RlO) (fun _ => rlO) h fun v H1 g1 s1 p e1 t1 m1 rl1 l1 h1 => ?_⟩
  obtain ⟨r, er, h3⟩ := Po.ret h1
  obtain ⟨i, er2, rfl⟩ := Option.map_eq_some_iff.mp er
  exact ⟨i, (OpR'.pk m1 rl1.1 (isI_inv er2)).int, h3 g1 H1 (some i) (.refl _ _) m1 rfl⟩
theorem e_lit {d : D} {v : V} {e : Expr} (he : PE X e (tC v)) (hd : ∀ ρ F, Rep ρ F v d) : PE X e (tE Z C (.lit d)) := by
  refine PE.im he ?_
  rintro σ H Q ⟨g, s, m, h⟩
  exact h g H v (.refl _ _) m ⟨.va (hd _ _), trivial, trivial⟩
theorem e_gl {n : Nat} {d : D} {v : V} {e : Expr} (he : PE X e (tC v)) (hn : C.gl n = some d) (hb : ∀ g H, Bo Z.K g H v d) : PE X e (tE Z C (.gl n)) := by
  refine PE.im he ?_
  rintro σ H Q ⟨g, s, m, h⟩
  simp only [ev, hn] at h
  exact h g H v (.refl _ _) m ⟨.bo (hb _ _), trivial, .inr hb⟩
theorem e_loc {i : Nat} {e : Expr} (he : PE X e (tVar i)) : PE X e (tE Z C (.loc i)) := by
  refine PE.im he ?_
  rintro σ H Q ⟨g, s, m, h⟩
  simp only [ev] at h
  cases hs : s.sl[i]? with
  | none => rw [hs] at h; exact h.elim
  | some x =>
    rw [hs] at h
    have w := m.slot i x hs
    cases x with
    | un => exact h.elim
    | va d =>
      obtain ⟨v, e, r⟩ := w
      exact ⟨v, e, h g H v (.refl _ _) m ⟨.va r, trivial, trivial⟩⟩
    | bo d =>
      obtain ⟨v, e, r⟩ := w
      exact ⟨v, e, h g H v (.refl _ _) m ⟨.bo r, trivial, .inl ⟨i, hs, e⟩⟩⟩
    | ce k =>
      obtain ⟨a, e, r⟩ := w
      exact ⟨.ref a, e, h g H _ (.refl _ _) m ⟨.ce r, trivial, trivial⟩⟩
theorem e_dnw : PE X (.Dict [] [] pos) (tE Z C .dnw) := by
  refine PE.im pe_dnewK ?_
  rintro σ H Q ⟨g, s, m, h⟩ p hp
  have o := op_new (K := Z.K) (o := .dK []) (d := .dct [] []) m.wf hp rfl trivial (.dK (kvs := []) .nil)
  have t := gro_new (o := .dK []) m.wf hp
  exact h g _ (.ref p) t.stp (m.gro t) ⟨o, fri hp, trivial⟩

/-! argument lists -/
theorem a_nil : PA X [] (tA Z C .nil) := by
  refine PA.im pa_nil ?_
  rintro σ H Q ⟨g, s, m, h⟩
  exact h g H [] (.refl _ _) m ⟨.nil, fun v hv => by simp [frs] at hv, by simp [frs], .nil⟩
theorem a_cons {es : List Expr} {er : Es} (ha : PE X a (tE Z C ea)) (hr : PA X es (tA Z C er)) (hs : starEach (a :: es) X.env = (false, eval a X.env) :: starEach es X.env) : PA X (a :: es) (tA Z C (.cons ea er)) := by
  refine PA.im (pa_cons ha hr hs) ?_
  rintro σ H Q ⟨g, s, m, h⟩
  simp only [evs] at h
  refine ⟨g, s, m, Po.bind' h fun v H1 g1 s1 p e1 t1 m1 rl1 h1 => ⟨g1, s1, m1, Po.bindS h1 t1 fun vs H2 g2 s2 ps e2 t2 m2 rl2 h2 => ?_⟩⟩
  obtain ⟨o2, f2, n2, b2⟩ := rl2
  have l1 := (ev_fx ea e1).sl
  have key : (∀ x ∈ frs (v :: vs) (p :: ps), ∀ a, x = .ref a → H1 a = none ∨ (x = v ∧ ∃ d, p = .pv d true)) ∧ (frs (v :: vs) (p :: ps)).Nodup := by
    unfold frs at f2 n2 ⊢
    rw [List.zip_cons_cons, List.filterMap_cons]
    cases p with
    | pv d f =>
      cases f with
      | false => exact ⟨fun x hx a ea => .inl (f2 x hx a ea), n2⟩
      | true =>
        have hv : ∀ a, v = .ref a → ∃ o, H1 a = some o := fun a ea => by
          have o1 := rl1.1
          subst ea
          cases o1 with
          | fr _ h _ _ _ _ _ => exact ⟨_, h⟩
        have isr : ∃ a, v = .ref a := by
          have o1 := rl1.1
          cases o1 with
          | fr _ _ _ _ _ _ _ => exact ⟨_, rfl⟩
        refine ⟨fun x hx a ea => ?_, List.nodup_cons.mpr ⟨fun hm => ?_, n2⟩⟩
        · rcases List.mem_cons.mp hx with z | z
          · exact .inr ⟨z, d, rfl⟩
          · exact .inl (f2 x z a ea)
        · obtain ⟨a, ea⟩ := isr
          obtain ⟨o, ho⟩ := hv a ea
          rw [f2 v hm a ea] at ho
          cases ho
    | pc k => exact ⟨fun x hx a ea => .inl (f2 x hx a ea), n2⟩
    | pb k => exact ⟨fun x hx a ea => .inl (f2 x hx a ea), n2⟩
  rw [l1] at b2
  refine h2 g2 H2 (v :: vs) (t1.trans t2) m2 ⟨.cons (rl1.1.mono t2) o2, fun x hx a ea => ?_, key.2, .cons rl1.2.2 b2⟩
  rcases key.1 x hx a ea with z | ⟨z, d, ed⟩
  · cases q : H a with
    | none => rfl
    | some o =>
      obtain ⟨o', e'⟩ := t1.th a o q
      rw [z] at e'; cases e'
  · subst ed z
    exact rl1.2.1 a ea
end
end Pv

set_option Elab.async false
set_option linter.all false
set_option maxRecDepth 100000
namespace Pv
open PySem L2 PyProof.Rows

theorem keep_nex {p : P} {s s' : St} {x : Xc} : keep p s ≠ .ex x s' := by
  cases p with
  | pv d f => intro h; cases h
  | pb d =>
    simp only [keep]
    split <;> exact fun h => nomatch h
  | pc k =>
    simp only [keep]
    split <;> exact fun h => nomatch h
theorem keeps_nex : ∀ {ps : List P} {s s' : St} {x : Xc}, keeps ps s ≠ .ex x s'
  | [], s, s', x => fun h => nomatch h
  | p :: ps, s, s', x => fun h => by
    simp only [keeps] at h
    cases h1 : keep p s with
    | no => rw [h1] at h; cases h
    | ex y s1 => exact keep_nex h1
    | ok d s1 =>
      rw [h1] at h
      simp only [R.bind_ok] at h
      cases h2 : keeps ps s1 with
      | no => rw [h2] at h; cases h
      | ex y s2 => exact keeps_nex h2
      | ok ds s2 => rw [h2] at h; cases h
def esLen : Es → Nat
  | .nil => 0
  | .cons _ r => esLen r + 1
theorem evs_length {C : Cl} : ∀ {es : Es} {s s' : St} {ps : List P}, evs C es s = .ok ps s' → ps.length = esLen es
  | .nil, s, s', ps, h => by cases h; rfl
  | .cons e r, s, s', ps, h => by
    obtain ⟨p1, s1, h1, h⟩ := R.inv h
    obtain ⟨p2, s2, h2, h⟩ := R.inv h
    cases h
    rw [List.length_cons, evs_length h2]; rfl
section
variable {Z : Pm} {C : Cl} {X : Cx} {a b c : Expr} {ea eb ec : E} {pos : Pos} {es : List Expr} {ees : Es} {g g0 g1 : Gh} {H H0 H1 : Hp} {s s0 s1 : St} {σ : L2.St} {v : V} {d : D}
theorem pks {vs : List V} {ps : List P} (m : Sim Z.K g s σ H) (o : OpRs Z.K g H vs ps) : ∀ {ds : List D}, derefs s ps = some ds → Paired (Pk Z.K g H) vs ds := by
  induction o with
  | nil => intro ds h; cases h; exact .nil
  | cons o r ih =>
    intro ds h
    simp only [derefs] at h
    split at h
    · rename_i d e
      obtain ⟨x, h1, rfl⟩ := Option.map_eq_some_iff.mp h
      exact .cons (OpR'.pk m o e) (ih h1)
    · cases h
theorem tru_D {K : PySem.W.Frag} {k : Bool} (w : Wf g H) (p : Pk K g H v d) (h : truthD d = some k) : TruV K v H k := by
  cases d with
  | bl b =>
    rw [p.bl]
    cases h
    rfl
  | int i =>
    rw [p.int]
    cases h
    rfl
  | non =>
    rw [p.non]
    cases h
    rfl
  | lst xs =>
    cases h
    obtain ⟨a, vs, rfl, ha, r⟩ := p.lst w
    refine .inl ⟨vs, .inl (.inl ha), ?_⟩
    cases r <;> rfl
  | tup xs =>
    cases h
    obtain ⟨a, vs, rfl, ha, r⟩ := p.tup w
    refine .inr (.inl ⟨vs, ha, ?_⟩)
    cases r <;> rfl
  | _ => cases h
theorem none_back (t : Stp g H g1 H1) {a : Addr} (h : H1 a = none) : H a = none := by
  cases q : H a with
  | none => rfl
  | some o =>
    obtain ⟨o', e⟩ := t.th a o q
    rw [h] at e; cases e
theorem e_tup {x1 : Nat} (ha : PA X es (tA Z C ees)) : PE X (.Tuple es x1 pos) (tE Z C (.tup ees)) := by
  refine PE.im (pe_tup ha) ?_
  rintro σ H Q ⟨g, s, m, h⟩
  simp only [ev] at h
  refine ⟨g, s, m, Po.seqA rsE_ok h fun vs H1 g1 s1 ps e1 t1 m1 rl1 l1 h1 => ?_⟩
  cases q : keeps ps s1 with
  | no => rw [q] at h1; exact h1.elim
  | ex x s' => exact (keeps_nex q).elim
  | ok ds s2 =>
    rw [q] at h1
    simp only [R.bind_ok] at h1
    obtain ⟨g2, t2, m2, r2, _⟩ := keeps_ok m t1 m1 l1 rl1.1 rl1.2.1 rl1.2.2.1 q
    split at h1
    · rename_i hl
      refine ⟨by rw [r2.length, ← lim_eq]; exact hl, fun p hp => ?_⟩
      have t3 := gro_tup (vs := vs) m2.wf hp
      exact h1 _ _ (.ref p) (t2.trans t3.stp) (m2.gro t3) ⟨.va (rep_tup m2.wf hp r2), trivial, trivial⟩
    · exact h1.elim
theorem e_lst (ha : PA X es (tA Z C ees)) : PE X (.List es pos) (tE Z C (.lst ees)) := by
  refine PE.im (pe_lst ha) ?_
  rintro σ H Q ⟨g, s, m, h⟩
  simp only [ev] at h
  refine ⟨g, s, m, Po.seqA rsE_ok h fun vs H1 g1 s1 ps e1 t1 m1 rl1 l1 h1 => ?_⟩
  cases q : keeps ps s1 with
  | no => rw [q] at h1; exact h1.elim
  | ex x s' => exact (keeps_nex q).elim
  | ok ds s2 =>
    rw [q] at h1
    simp only [R.bind_ok] at h1
    obtain ⟨g2, t2, m2, r2, _⟩ := keeps_ok m t1 m1 l1 rl1.1 rl1.2.1 rl1.2.2.1 q
    split at h1
    · rename_i hl
      refine ⟨by rw [r2.length, ← lim_eq]; exact hl, fun p hp => ?_⟩
      have t3 := gro_new (o := .lst vs) m2.wf hp
      exact h1 _ _ (.ref p) (t2.trans t3.stp) (m2.gro t3) ⟨op_new m2.wf hp rfl trivial (.lst r2), fri (none_back t2 hp), trivial⟩
    · exact h1.elim
theorem e_bi {e : Expr} {f : Bi} (hK : X.K = Z.K) (he : PE X e (tCB (rBi X.K f) (tA Z C ees))) : PE X e (tE Z C (.bi f ees)) := by
  refine PE.im he ?_
  rintro σ H Q ⟨g, s, m, h⟩
  simp only [ev] at h
  refine ⟨g, s, m, Po.seqA rsE_ok h fun vs H1 g1 s1 ps e1 t1 m1 rl1 l1 h1 => ?_⟩
  obtain ⟨r, er, h3⟩ := Po.ret h1
  obtain ⟨ds, e2, e3⟩ := Option.bind_eq_some_iff.mp er
  obtain ⟨r', e4, rfl⟩ := Option.map_eq_some_iff.mp e3
  rw [hK]
  exact ⟨g1, ds, r', m1.wf, pks m1 rl1.1 e2, e4, Po.out m1 (Po.step rlE t1 h3)⟩
theorem t_bi {e : Expr} {f : Bi} (hK : X.K = Z.K) (he : PE X e (tCB (rBi X.K f) (tA Z C ees))) (ht : ∀ whole, isTrue e X.env whole = (do let v ← whole; standAt e.pos; holding [v] (truthy v))) : PT X e (tT Z C (.bi f ees)) := by
  refine PT.im (pt_truth he ht) ?_
  rintro σ H Q ⟨g, s, m, h⟩
  simp only [evT] at h
  refine ⟨g, s, m, Po.seqA (Rs := rsB) rsB_ok h fun vs H1 g1 s1 ps e1 t1 m1 rl1 l1 h1 => ?_⟩
  obtain ⟨r, er, h3⟩ := Po.ret h1
  obtain ⟨ds, e2, e3⟩ := Option.bind_eq_some_iff.mp er
  obtain ⟨r', e4, e5⟩ := Option.bind_eq_some_iff.mp e3
  rw [hK]
  refine ⟨g1, ds, r', m1.wf, pks m1 rl1.1 e2, e4, fun g2 w H2 t2 o2 f2 => ⟨r, ?_, h3 g2 H2 r (t1.trans t2.stp) (m1.gro t2) rfl⟩⟩
  refine tru_D (t2.wf m1.wf) (OpR'.pk (m1.gro t2) o2 ?_) e5
  rfl
theorem e_call {e : Expr} {f np : Nat} (hl : esLen ees = np) (he : PE X e (tCallSD (spF Z C f np) [] (WE Z.W) (tA Z C ees))) : PE X e (tE Z C (.call f ees)) := by
  refine PE.im he ?_
  rintro σ H Q ⟨g, s, m, h⟩
  simp only [ev] at h
  refine ⟨g, s, m, Po.seqA rsE_ok h fun vs H1 g1 s1 ps e1 t1 m1 rl1 l1 h1 => ?_⟩
  rw [List.append_nil]
  rw [← l1] at rl1 h1
  exact call_ok m t1 m1 l1 rl1 (by rw [OpRs.length rl1.1, evs_length e1]; exact hl) h1
theorem t_call {e : Expr} {f np : Nat} (hK : X.K = Z.K) (hl : esLen ees = np) (he : PE X e (tCallSD (spF Z C f np) [] (WE Z.W) (tA Z C ees))) (ht : ∀ whole, isTrue e X.env whole = (do let v ← whole; standAt e.pos; holding [v] (truthy v))) : PT X e (tT Z C (.call f ees)) := by
  refine PT.im (pt_truth he ht) ?_
  rintro σ H Q ⟨g, s, m, h⟩
  simp only [evT] at h
  refine ⟨g, s, m, Po.seqA (Rs := rsB) rsB_ok h fun vs H1 g1 s1 ps e1 t1 m1 rl1 l1 h1 => ?_⟩
  rw [List.append_nil]
  rw [← l1] at rl1
  refine call_ok m t1 m1 l1 rl1 (by rw [OpRs.length rl1.1, evs_length e1]; exact hl) ?_
  refine Po.bind' h1 fun w H2 g2 s2 p e2 t2 m2 rl2 h2 => ?_
  obtain ⟨r, er, h3⟩ := Po.ret h2
  obtain ⟨x, e4, e5⟩ := Option.bind_eq_some_iff.mp er
  rw [hK]
  exact ⟨r, tru_D m2.wf (OpR'.pk m2 rl2.1 e4) e5, h3 g2 H2 r t2 m2 rfl⟩
theorem t_val {e : Expr} {ee : E} (hK : X.K = Z.K) (he : PE X e (tE Z C ee)) (ht : ∀ whole, isTrue e X.env whole = (do let v ← whole; standAt e.pos; holding [v] (truthy v)))
    (hv : ∀ s, evT C ee s = (ev C ee s).bind fun p s => R.of ((deref s p).bind truthD) s) : PT X e (tT Z C ee) := by
  refine PT.im (pt_truth he ht) ?_
  rintro σ H Q ⟨g, s, m, h⟩
  rw [hv] at h
  refine ⟨g, s, m, Po.seq rsB_ok h fun w H2 g2 s2 p e2 t2 m2 rl2 l2 h2 => ?_⟩
  obtain ⟨r, er, h3⟩ := Po.ret h2
  obtain ⟨x, e4, e5⟩ := Option.bind_eq_some_iff.mp er
  rw [hK]
  exact ⟨r, tru_D m2.wf (OpR'.pk m2 rl2.1 e4) e5, h3 g2 H2 r (.refl _ _) m2 rfl⟩
theorem val_loc {C : Cl} {i : Nat} (s : St) : evT C (.loc i) s = (ev C (.loc i) s).bind fun p s => R.of ((deref s p).bind truthD) s := by
  simp only [ev, evT]
  cases s.sl[i]? with
  | none => rfl
  | some x =>
    cases x with
    | un => rfl
    | va d => rfl
    | bo d => rfl
    | ce k =>
      simp only [R.bind_ok, deref]
      cases s.ce[k]? <;> rfl
theorem val_lit {C : Cl} {d : D} (s : St) : evT C (.lit d) s = (ev C (.lit d) s).bind fun p s => R.of ((deref s p).bind truthD) s := rfl

/-! methods -/
theorem e_append (hK : X.K = Z.K) {e : Expr} {eo : E} {mt : Mt} {r : V → List V → Hp → VK → Prop} (hmu : isMut mt = true) (hrec : ∀ d, recvOk mt d = true → ∃ xs, d = .lst xs)
    (he : PE X e (tBM X.K "list" r (tE Z C eo) (tA Z C ees)))
    (hr : ∀ {g : Gh} {H : Hp} {a : Addr} {ws vs : List V} {xs : List D} {ds : List D} {y : D} {q : D} {Q : VK}, ExH g.F H → H a = some (.lst ws) → Reps g.ρ g.F ws xs → Reps g.ρ g.F vs ds → mutM mt (.lst xs) ds = some (y, q) →
      (∀ ws' ys v, y = .lst ys → Reps g.ρ g.F ws' ys → Rep g.ρ g.F v q → Q v (upd H a (.lst ws'))) → r (.ref a) vs H Q)
    (hy : ∀ {x : D} {ds : List D} {y q : D}, mutM mt x ds = some (y, q) → ∃ xs ys, x = .lst xs ∧ y = .lst ys) : PE X e (tE Z C (.mth mt eo ees)) := by
  refine PE.im he ?_
  rintro σ H Q ⟨g, s, m, h⟩
  simp only [ev, hmu, if_true] at h
  refine ⟨g, s, m, Po.seq rsE_ok h fun v H1 g1 s1 p e1 t1 m1 rl1 l1 h1 => ?_⟩
  obtain ⟨_, er, h2⟩ := Po.of h1
  obtain ⟨d, d1, d2⟩ := Option.bind_eq_some_iff.mp er
  have d3 : recvOk mt d = true := by
    by_cases z : recvOk mt d = true
    · exact z
    · rw [if_neg z] at d2; cases d2
  obtain ⟨xs0, rfl⟩ := hrec d d3
  obtain ⟨a0, vs0, ea0, ha0, _⟩ := (OpR'.pk m1 rl1.1 d1).lst m1.wf
  refine ⟨?_, g1, s1, m1, Po.seqA rsE_ok h2 fun vs H2 g2 s2 ps e2 t2 m2 rl2 l2 h3 => ?_⟩
  · rw [ea0]
    exact .inl ⟨rfl, vs0, .inl (.inl ha0)⟩
  · cases q : keeps ps s2 with
    | no => rw [q] at h3; exact h3.elim
    | ex x s' => exact (keeps_nex q).elim
    | ok ds s3 =>
      rw [q] at h3
      simp only [R.bind_ok] at h3
      obtain ⟨g3, t3, m3, r3, hρ, hcp, hF⟩ := keeps_ok m1 t2 m2 l2 rl2.1 rl2.2.1 rl2.2.2.1 q
      have o1 := rl1.1
      cases o1 with
      | va _ => exact h3.elim
      | fr _ _ _ _ _ _ _ => exact h3.elim
      | bo _ => exact h3.elim
      | @ce a k hk =>
        have hk3 := t3.cp _ _ hk
        simp only [doMut] at h3
        cases hc : s3.ce[k]? with
        | none => rw [hc] at h3; exact h3.elim
        | some c =>
          rw [hc] at h3
          cases c with
          | he _ => exact h3.elim
          | fz _ => exact h3.elim
          | ow x =>
            simp only at h3
            cases hm : mutM mt x ds with
            | none => rw [hm] at h3; exact h3.elim
            | some yq =>
              rw [hm] at h3
              obtain ⟨y, q'⟩ := yq
              obtain ⟨xs, ys, rfl, rfl⟩ := hy hm
              obtain ⟨w1, w2, o, w3, w4, w5⟩ := m3.c.cel k _ a hc hk3
              cases w5 with
              | @lst ws _ w5 =>
                refine hr m3.c.ex w3 w5 r3 hm fun ws' ys' v ey rw' rq => ?_
                cases ey
                obtain ⟨t4, m4⟩ := m3.write (o := .lst ws') hc hk3 rfl trivial (.lst rw')
                exact h3 g3 _ v (t3.trans t4) m4 ⟨.va rq, trivial, trivial⟩
theorem bitlen_eq (i : Int) : bitlen i = ((Builtin.Int.intBits i : Nat) : Int) := by
  unfold bitlen Builtin.Int.intBits
  by_cases h : i = 0
  · subst h; rfl
  · have h2 : (i == 0) = false := by simpa using h
    rw [if_neg h, h2]
    simp
theorem e_bits (hK : X.K = Z.K) {e : Expr} {eo : E} (he : PE X e (tBits (tE Z C eo))) : PE X e (tE Z C (.mth .bitlen eo .nil)) := by
  refine PE.im he ?_
  rintro σ H Q ⟨g, s, m, h⟩
  simp only [ev] at h
  refine ⟨g, s, m, Po.seq rsE_ok h fun v H1 g1 s1 p e1 t1 m1 rl1 l1 h1 => ?_⟩
  obtain ⟨_, er, h2⟩ := Po.of h1
  obtain ⟨d, d1, d2⟩ := Option.bind_eq_some_iff.mp er
  cases d with
  | int i =>
    have ev' := (OpR'.pk m1 rl1.1 d1).int
    refine ⟨i, ev', ?_⟩
    simp only [evs, R.bind_ok, isMut, Bool.false_eq_true, if_false] at h2
    obtain ⟨r, er2, h3⟩ := Po.ret h2
    obtain ⟨x, f1, f2⟩ := Option.bind_eq_some_iff.mp er2
    rw [d1] at f1
    cases f1
    cases f2
    rw [← bitlen_eq]
    exact h3 g1 H1 _ (.refl _ _) m1 ⟨.va (.int _), trivial, trivial⟩
  | _ => cases d2
end
end Pv

set_option Elab.async false
set_option linter.all false
set_option maxRecDepth 100000
namespace Pv
open PySem L2 PyProof.Rows

/-- o[i] = v -/
def rSetG (K : PySem.W.Frag) : TSet := fun o i v H Q => ∃ g a ob x d e y, o = .ref a ∧ Wf g H ∧ H a = some ob ∧ RepO g.ρ g.F ob x ∧ Pk K g H i d ∧ Rep g.ρ g.F v e ∧ setD x d e = some y ∧ ∀ o', Mut (some o') → RepO g.ρ g.F o' y → Q (upd H a o')
theorem set_G {X : Cx} (hu : X.A.units + 1 < cLine) : PSet X (rSetG X.K) := by
  intro pins s σ H o i v ov iv u Q I ro ri rv h
  obtain ⟨g, a, ob, x, d, e, y, rfl, w, ha, r, pi, re, hs, q⟩ := h
  cases r with
  | @lst vs ds r =>
    cases d with
    | int k =>
      have ei := pi.int
      simp only [setD] at hs
      by_cases h0 : 0 ≤ k
      · rw [if_pos h0] at hs
        by_cases h1 : k < ds.length
        · rw [if_pos h1] at hs
          cases hs
          refine set_list pins s σ H _ i v ov iv u _ I ro ri rv ⟨a, vs, k, k.toNat, rfl, ei, ha, ?_, q _ trivial (.lst (r.set re k.toNat))⟩
          have hl := r.length
          unfold ixN
          rw [if_pos h0, if_pos (by omega)]
        · rw [if_neg h1] at hs; cases hs
      · rw [if_neg h0] at hs; cases hs
    | _ => cases hs
  | @dK kvs ds r =>
    simp only [setD] at hs
    obtain ⟨hc, e'⟩ := some_ite hs
    obtain ⟨ko, hl⟩ := Bool.and_eq_true_iff.mp hc
    obtain ⟨H1, o', hI, dp, mu, ro'⟩ := with_put w ha (.dK r) pi ko (of_decide_eq_true hl) re
    subst e'
    refine thn (set_dict hu pins s σ H1 (.ref a) i v ov iv u (fun H' => H' = upd H a o') (hI s I) ro ri rv ⟨a, _, rfl, dp, rfl⟩) fun _ s1 ⟨H', I', eH⟩ => ?_
    subst eH
    exact ⟨_, I', q _ mu ro'⟩
  | @dT kvs ds r =>
    simp only [setD] at hs
    obtain ⟨hc, e'⟩ := some_ite hs
    obtain ⟨ko, hl⟩ := Bool.and_eq_true_iff.mp hc
    obtain ⟨H1, o', hI, dp, mu, ro'⟩ := with_put w ha (.dT r) pi ko (of_decide_eq_true hl) re
    subst e'
    refine thn (set_dict hu pins s σ H1 (.ref a) i v ov iv u (fun H' => H' = upd H a o') (hI s I) ro ri rv ⟨a, _, rfl, dp, rfl⟩) fun _ s1 ⟨H', I', eH⟩ => ?_
    subst eH
    exact ⟨_, I', q _ mu ro'⟩

mutual
def tsl : T → List Nat
  | .nm i => [i]
  | .sub _ _ => []
  | .tup ts => tsls ts
def tsls : Ts → List Nat
  | .nil => []
  | .cons t r => tsl t ++ tsls r
end
def Off (l : List Nat) (σ σ' : L2.St) : Prop := σ'.length = σ.length ∧ ∀ j, j ∉ l → σ'[j]? = σ[j]?
theorem Off.refl (l : List Nat) (σ : L2.St) : Off l σ σ := ⟨rfl, fun _ _ => rfl⟩
theorem Off.set {l : List Nat} {σ : L2.St} {i : Nat} {x : Option V} (h : i ∈ l) : Off l σ (σ.set i x) := ⟨by simp, fun j hj => List.getElem?_set_ne (by rintro rfl; exact hj h)⟩
theorem Off.trans {l : List Nat} {a b c : L2.St} (h : Off l a b) (k : Off l b c) : Off l a c := ⟨k.1.trans h.1, fun j hj => (k.2 j hj).trans (h.2 j hj)⟩
theorem Off.mono {l l' : List Nat} {a b : L2.St} (h : Off l a b) (s : ∀ j ∈ l, j ∈ l') : Off l' a b := ⟨h.1, fun j hj => h.2 j fun m => hj (s j m)⟩
/-- what follows a store -/
def PoU (Z : Pm) (l : List Nat) (σ : L2.St) (g : Gh) (H : Hp) (r : R Unit) (Q : L2.St → Hp → Prop) : Prop :=
  match r with
  | .ok _ s' => ∀ g' σ' H', Stp g H g' H' → Sim Z.K g' s' σ' H' → Off l σ σ' → Q σ' H'
  | .ex x s' => ∀ g' σ' H' cls dx, Stp g H g' H' → Sim Z.K g' s' σ' H' → XcR Z.K Z.ec g' H' cls dx x → FrX H dx → Z.W cls dx σ' H'
  | .no => False
section
variable {Z : Pm} {C : Cl} {X : Cx} {a b c : Expr} {ea eb ec : E} {pos : Pos} {es : List Expr} {ees : Es} {g g0 g1 : Gh} {H H0 H1 : Hp} {s s0 s1 : St} {σ σ1 : L2.St} {v : V} {d : D} {l l' : List Nat}
theorem PoU.step {r : R Unit} {Q : L2.St → Hp → Prop} (t : Stp g H g1 H1) (o : Off l σ σ1) (h : PoU Z l σ g H r Q) : PoU Z l σ1 g1 H1 r Q := by
  cases r with
  | ok a s' => exact fun g' σ' H' t' m o' => h g' σ' H' (t.trans t') m (o.trans o')
  | ex x s' => exact fun g' σ' H' cls dx t' m rl fx => h g' σ' H' cls dx (t.trans t') m rl (fx.back t)
  | no => exact h
theorem PoU.bind {r : R Unit} {f : Unit → St → R Unit} {Q : L2.St → Hp → Prop} {Q1 : L2.St → Hp → Prop} (hs : ∀ j ∈ l', j ∈ l) (h : PoU Z l σ g H (r.bind f) Q)
    (k : ∀ σ1 H1 g1 s1, r = .ok () s1 → Stp g H g1 H1 → Sim Z.K g1 s1 σ1 H1 → PoU Z l σ1 g1 H1 (f () s1) Q → Q1 σ1 H1) : PoU Z l' σ g H r Q1 := by
  cases r with
  | ok a s' => exact fun g' σ' H' t m o => k σ' H' g' s' rfl t m (PoU.step t (o.mono hs) h)
  | ex x s' => exact h
  | no => exact h
/-- an expression ahead of a store -/
theorem PoU.seq {e : E} {f : P → St → R Unit} {Q : L2.St → Hp → Prop} {Q1 : VK} (h : PoU Z l σ g H ((ev C e s).bind f) Q)
    (k : ∀ v H1 g1 s1 p, ev C e s = .ok p s1 → Stp g H g1 H1 → Sim Z.K g1 s1 σ H1 → RlE Z.K σ s.sl g1 H H1 v p → s1.sl = s.sl → PoU Z l σ g1 H1 (f p s1) Q → Q1 v H1) : Po Z σ g H (RlE Z.K σ s.sl) (ev C e s) Q1 := by
  have fx : ∀ {p s1}, ev C e s = .ok p s1 → s1.sl = s.sl := fun e1 => (ev_fx e e1).sl
  cases q : ev C e s with
  | ok p s' =>
    rw [q] at h
    exact fun g' H' v t m rl => k v H' g' s' p q t m rl (fx q) (PoU.step t (.refl _ _) h)
  | ex x s' =>
    rw [q] at h
    exact fun g' H' cls dx t m rl fx => h g' σ H' cls dx t m rl fx
  | no =>
    rw [q] at h
    exact h
def gD (Z : Pm) (C : Cl) (t : T) : TG := fun v σ H Q => ∃ g s d, Sim Z.K g s σ H ∧ Rep g.ρ g.F v d ∧ PoU Z (tsl t) σ g H (asD C t d s) Q
def gDs (Z : Pm) (C : Cl) (t : Ts) : TGs := fun vs σ H Q => ∃ g s ds, Sim Z.K g s σ H ∧ Reps g.ρ g.F vs ds ∧ PoU Z (tsls t) σ g H (asDs C t ds s) Q
theorem PG.im {tg : Expr} {t t' : TG} (h : PG X tg t) (k : ∀ v σ H Q, t' v σ H Q → t v σ H Q) : PG X tg t' := ⟨fun pins s σ H v u Q I r q => h.run pins s σ H v u Q I r (k v σ H Q q)⟩
theorem PGs.im {tg : List Expr} {t t' : TGs} (h : PGs X tg t) (k : ∀ v σ H Q, t' v σ H Q → t v σ H Q) : PGs X tg t' := ⟨fun pins s σ H v u Q I r q => h.run pins s σ H v u Q I r (k v σ H Q q)⟩
theorem PG.or {tg : Expr} {t t' : TG} (h : PG X tg t) (h' : PG X tg t') : PG X tg (fun v σ H Q => t v σ H Q ∨ t' v σ H Q) := ⟨fun pins s σ H v u Q I r q => q.elim (h.run pins s σ H v u Q I r) (h'.run pins s σ H v u Q I r)⟩
theorem g_nm {i : Nat} {tg : Expr} (hg : PG X tg (gName i)) : PG X tg (gD Z C (.nm i)) := by
  refine PG.im hg ?_
  rintro v σ H Q ⟨g, s, d, m, r, h⟩
  simp only [asD, putNm] at h
  exact h g (σ.set i (some v)) H (.refl _ _) (m.setSlot m.c fun _ => ⟨v, rfl, r⟩) (.set List.mem_cons_self)
/-- a container's place is written -/
theorem putAt_ok {s' : St} {p : P} {k e : D} {o i : V} {u : Unit} (m : Sim Z.K g s σ H) (hv : Rep g.ρ g.F v e) (op : OpR' Z.K g H o p) (pi : Pk Z.K g H i k) (h : putAt p k e s = .ok u s') (Q : Hp → Prop)
    (q : ∀ H', Stp g H g H' → Sim Z.K g s' σ H' → Q H') : rSetG Z.K o i v H Q := by
  cases op with
  | va _ => cases h
  | fr _ _ _ _ _ _ _ => cases h
  | bo _ => cases h
  | @ce a j hj =>
    simp only [putAt] at h
    cases hc : s.ce[j]? with
    | none => rw [hc] at h; cases h
    | some c =>
      rw [hc] at h
      cases c with
      | he _ => cases h
      | fz _ => cases h
      | ow x =>
        simp only at h
        cases hm : setD x k e with
        | none => rw [hm] at h; cases h
        | some y =>
          rw [hm] at h
          cases h
          obtain ⟨w1, w2, ob, w3, w4, w5⟩ := m.c.cel j _ a hc hj
          have ic : isC y = true := by
            cases x with
            | lst xs =>
              cases k with
              | int n =>
                simp only [setD] at hm
                by_cases h0 : 0 ≤ n
                · rw [if_pos h0] at hm
                  by_cases h1 : n < xs.length
                  · rw [if_pos h1] at hm; cases hm; rfl
                  · rw [if_neg h1] at hm; cases hm
                · rw [if_neg h0] at hm; cases hm
              | _ => cases hm
            | dct ks vs =>
              simp only [setD] at hm
              obtain ⟨_, e⟩ := some_ite hm
              subst e; rfl
            | _ => cases hm
          refine ⟨g, a, ob, x, k, e, y, rfl, m.wf, w3, w5, pi, hv, hm, fun o' mu ro => ?_⟩
          obtain ⟨t4, m4⟩ := m.write hc hj ic mu ro
          exact q _ t4 m4
theorem putAt_nex {p : P} {k e : D} {s s' : St} {x : Xc} : putAt p k e s ≠ .ex x s' := by
  cases p with
  | pv _ _ => exact fun h => nomatch h
  | pb _ => exact fun h => nomatch h
  | pc j =>
    simp only [putAt]
    split
    · split <;> exact fun h => nomatch h
    · exact fun h => nomatch h
theorem g_sub {eo ei : E} {o i : Expr} (hK : X.K = Z.K) (hu : X.A.units + 1 < cLine) (ho : PE X o (tE Z C eo)) (hi : PE X i (tE Z C ei))
    (ha : ∀ v, assign (.Subscript o i pos) X.env v = (do
      let ov ← holding [v] (eval o X.env)
      let iv ← holding [v, ov] (eval i X.env)
      standAt pos
      holding [v, ov, iv] (setItem ov iv v)
      release [v, ov, iv] [])) : PG X (.Subscript o i pos) (gD Z C (.sub eo ei)) := by
  refine PG.im (pg_sub ho hi (set_G hu) ha) ?_
  rintro v σ H Q ⟨g, s, d, m, r, h⟩
  simp only [asD] at h
  refine ⟨g, s, m, PoU.seq h fun w H1 g1 s1 p e1 t1 m1 rl1 l1 h1 => ⟨g1, s1, m1, PoU.seq h1 fun u H2 g2 s2 q e2 t2 m2 rl2 l2 h2 => ?_⟩⟩
  cases hd : deref s2 q with
  | none => rw [hd] at h2; exact h2.elim
  | some k =>
    rw [hd] at h2
    simp only [R.of_some, R.bind_ok] at h2
    cases hp : putAt p k d s2 with
    | no => rw [hp] at h2; exact h2.elim
    | ex x s' => exact (putAt_nex hp).elim
    | ok u' s3 =>
      rw [hp] at h2
      rw [hK]
      exact putAt_ok m2 ((r.mono t1.ρ t1.F).mono t2.ρ t2.F) (rl1.1.mono t2) (OpR'.pk m2 rl2.1 hd) hp _ fun H' t3 m3 => h2 g2 σ H' t3 m3 (.refl _ _)
theorem gs_nil : PGs X [] (gDs Z C .nil) := by
  refine PGs.im pgs_nil ?_
  rintro vs σ H Q ⟨g, s, ds, m, r, h⟩
  cases r with
  | nil => exact ⟨rfl, h g σ H (.refl _ _) m (.refl _ _)⟩
  | cons _ _ => exact h.elim
theorem gs_cons {t : T} {ts : Ts} {e : Expr} {es : List Expr} (h1 : PG X e (gD Z C t)) (h2 : PGs X es (gDs Z C ts)) (hs : (assignEach (e :: es) X.env).map (·.2) = assign e X.env :: (assignEach es X.env).map (·.2)) : PGs X (e :: es) (gDs Z C (.cons t ts)) := by
  refine PGs.im (pgs_cons h1 h2 hs) ?_
  rintro vs σ H Q ⟨g, s, ds, m, r, h⟩
  cases r with
  | nil => exact h.elim
  | @cons v vs d ds r rs =>
    simp only [asDs] at h
    refine ⟨v, vs, rfl, g, s, d, m, r, PoU.bind (fun j hj => List.mem_append_left _ hj) h fun σ1 H1 g1 s1 e1 t1 m1 h1 => ⟨g1, s1, ds, m1, rs.mono t1.ρ t1.F, ?_⟩⟩
    cases q : asDs C ts ds s1 with
    | no => rw [q] at h1; exact h1
    | ex x s' => rw [q] at h1; exact h1
    | ok u s' =>
      rw [q] at h1
      exact fun g' σ' H' t m o => h1 g' σ' H' t m (o.mono fun j hj => List.mem_append_right _ hj)
theorem g_tup {ts : Ts} {es : List Expr} {k n : Nat} (hK : X.K = Z.K) (hc : X.calm = true) (h : PGs X es (gDs Z C ts)) (hn : (assignEach es X.env).length = n) (hst : (assignEach es X.env).findIdx? (·.1) = none)
    (hl : ∀ (ds : List D) (s s' : St) (u : Unit), asDs C ts ds s = .ok u s' → ds.length = n) (hx : ∀ (ds : List D) (s s' : St) (x : Xc), asDs C ts ds s ≠ .ex x s') : PG X (.Tuple es k pos) (gD Z C (.tup ts)) := by
  refine PG.im (PG.or (pg_tup hc h hn hst) (pg_lst hc h hn hst)) ?_
  rintro v σ H Q ⟨g, s, d, m, r, h⟩
  simp only [asD] at h
  have ln : ∀ ds, PoU Z (tsl (.tup ts)) σ g H (asDs C ts ds s) Q → ds.length = n := fun ds h => by
    cases q : asDs C ts ds s with
    | no => rw [q] at h; exact h.elim
    | ex x s' => exact (hx ds s s' x q).elim
    | ok u s' => exact hl ds s s' u q
  cases d with
  | tup ds =>
    obtain ⟨a, vs, rfl, ha, rs⟩ := Pk.tup (K := X.K) m.wf (.rep r)
    exact .inl ⟨a, vs, rfl, ha, by rw [rs.length]; exact ln ds h, g, s, ds, m, rs, h⟩
  | lst ds =>
    obtain ⟨a, vs, rfl, ha, rs⟩ := Pk.lst (K := X.K) m.wf (.rep r)
    exact .inr ⟨a, vs, rfl, .inl (.inl ha), by rw [rs.length]; exact ln ds h, g, s, ds, m, rs, h⟩
  | _ => exact h.elim
end
end Pv

set_option Elab.async false
set_option linter.all false
set_option maxRecDepth 100000
namespace Pv
open PySem L2 PyProof.Rows

/-- what an iterator of the machine yields -/
def Walk (K : PySem.W.Frag) (J : L2.It) (ds : List D) (g1 : Gh) (H1 : Hp) (s1 : St) : Prop :=
  ∀ g s σ H, Stp g1 H1 g H → Sim K g s σ H → Hl s1 s → ∀ i : Nat, (∀ d, ds[i]? = some d → J.go i H ∧ ∀ x H', J.yld i H x H' → ∃ g', Gro g H g' H' ∧ Rep g'.ρ g'.F x d) ∧ (ds.length ≤ i → J.stop i H)
def PoI (Z : Pm) (σ : L2.St) (g : Gh) (H : Hp) (r : R (List D × List (Option Nat))) (R : L2.It → Hp → Prop) : Prop :=
  match r with
  | .ok x s1 => ∀ g1 H1 J, Stp g H g1 H1 → Sim Z.K g1 s1 σ H1 → Walk Z.K J x.1 g1 H1 s1 → R J H1
  | .ex x s' => ∀ g' H' cls dx, Stp g H g' H' → Sim Z.K g' s' σ H' → XcR Z.K Z.ec g' H' cls dx x → FrX H dx → Z.W cls dx σ H'
  | .no => False
def tIt (Z : Pm) (C : Cl) (it : It) : TI := fun σ H R => ∃ g s, Sim Z.K g s σ H ∧ PoI Z σ g H (evIt C it s) R
theorem rngD_len (n : Nat) : ∀ lo, (rngD lo n).length = n := by
  induction n with
  | zero => intro lo; rfl
  | succ n ih => intro lo; simp only [rngD, List.length_cons, ih]
theorem rngD_get (n : Nat) : ∀ (lo : Int) (i : Nat) (d : D), (rngD lo n)[i]? = some d → i < n ∧ d = .int (lo + i) := by
  induction n with
  | zero => intro lo i d h; simp [rngD] at h
  | succ n ih =>
    intro lo i d h
    cases i with
    | zero =>
      simp [rngD] at h
      subst h
      exact ⟨Nat.succ_pos _, by simp⟩
    | succ i =>
      simp [rngD] at h
      obtain ⟨h1, h2⟩ := ih _ _ _ h
      refine ⟨Nat.succ_lt_succ h1, ?_⟩
      subst h2
      congr 1
      push_cast
      omega
theorem enumD_len : ∀ (n : Nat) (ds : List D), (enumD n ds).length = ds.length
  | _, [] => rfl
  | n, d :: ds => by simp only [enumD, List.length_cons, enumD_len (n + 1) ds]
theorem enumD_get : ∀ (n : Nat) (ds : List D) (i : Nat) (d : D), (enumD n ds)[i]? = some d → ∃ e, ds[i]? = some e ∧ d = .tup [.int (n + i : Nat), e]
  | _, [], i, d, h => by simp [enumD] at h
  | n, e :: ds, 0, d, h => by
    simp [enumD] at h
    subst h
    exact ⟨e, rfl, rfl⟩
  | n, e :: ds, i + 1, d, h => by
    simp [enumD] at h
    obtain ⟨x, h1, h2⟩ := enumD_get (n + 1) ds i d h
    refine ⟨x, by simpa using h1, ?_⟩
    rw [h2]
    congr 3
    have : n + 1 + i = n + (i + 1) := by omega
    rw [this]
theorem zipD_get : ∀ (as bs : List D) (i : Nat) (d : D), (zipD as bs)[i]? = some d → ∃ a b, as[i]? = some a ∧ bs[i]? = some b ∧ d = .tup [a, b]
  | [], bs, i, d, h => by simp [zipD] at h
  | a :: as, [], i, d, h => by simp [zipD] at h
  | a :: as, b :: bs, 0, d, h => by
    simp [zipD] at h
    subst h
    exact ⟨a, b, rfl, rfl, rfl⟩
  | a :: as, b :: bs, i + 1, d, h => by
    simp [zipD] at h
    obtain ⟨x, y, h1, h2, h3⟩ := zipD_get as bs i d h
    exact ⟨x, y, by simpa using h1, by simpa using h2, h3⟩
theorem zipD_len : ∀ (as bs : List D), (zipD as bs).length = min as.length bs.length
  | [], bs => by simp [zipD]
  | a :: as, [] => by simp [zipD]
  | a :: as, b :: bs => by
    simp only [zipD, List.length_cons, zipD_len as bs]
    omega
theorem PI.im {X : Cx} {tg iter : Expr} {t t' : TI} (h : PI X tg iter t) (k : ∀ σ H R, t' σ H R → t σ H R) : PI X tg iter t' := ⟨fun pins s σ H R I q => h.run pins s σ H R I (k σ H R q)⟩
theorem PI.or {X : Cx} {tg iter : Expr} {t t' : TI} (h : PI X tg iter t) (h' : PI X tg iter t') : PI X tg iter (fun σ H R => t σ H R ∨ t' σ H R) := ⟨fun pins s σ H R I q => q.elim (h.run pins s σ H R I) (h'.run pins s σ H R I)⟩
/-- seen as a list -/
def isL : D → List D → Prop
  | .lst xs, ds => xs = ds
  | .scr xs, ds => xs = ds
  | _, _ => False
section
variable {Z : Pm} {C : Cl} {X : Cx} {a b c : Expr} {ea eb ec : E} {pos : Pos} {es : List Expr} {ees : Es} {g g0 g1 : Gh} {H H0 H1 : Hp} {s s0 s1 : St} {σ σ1 : L2.St} {v : V} {d : D} {l l' : List Nat} {K : PySem.W.Frag}
theorem Pk.sql {ds : List D} (w : Wf g H) (h : Pk K g H v d) (e : isL d ds) : ∃ a vs, v = .ref a ∧ SqL K H a vs ∧ Reps g.ρ g.F vs ds := by
  cases d with
  | lst xs =>
    have e : xs = ds := e
    subst e
    obtain ⟨a, vs, ea, ha, r⟩ := h.lst w
    exact ⟨a, vs, ea, .inl (.inl ha), r⟩
  | scr xs =>
    have e : xs = ds := e
    subst e
    obtain ⟨a, vs, ea, ha, r⟩ := h.scr w
    exact ⟨a, vs, ea, ha, r⟩
  | _ => exact e.elim
theorem itD_inv {d : D} {ds : List D} (h : itD d = some ds) : isL d ds ∨ d = .tup ds := by
  cases d with
  | lst xs => cases h; exact .inl rfl
  | scr xs => cases h; exact .inl rfl
  | tup xs => cases h; exact .inr rfl
  | _ => cases h
/-- an iterable value, evaluated and held -/
theorem i_e {tg : Expr} (hK : X.K = Z.K) (ha : PE X a (tE Z C ea)) : PI X tg a (tIt Z C (.e ea)) := by
  refine PI.im (PI.or (pi_list ha) (pi_tup ha)) ?_
  rintro σ H R ⟨g, s, m, h⟩
  simp only [evIt] at h
  cases q : ev C ea s with
  | no => rw [q] at h; exact h.elim
  | ex x s' => rw [q] at h; exact .inl ⟨g, s, m, by rw [q]; exact h⟩
  | ok p s1 =>
    rw [q] at h
    simp only [Pv.R.bind_ok] at h
    cases hd : deref s1 p with
    | none => rw [hd] at h; exact h.elim
    | some d =>
      rw [hd] at h
      cases hi : itD d with
      | none => simp only [Option.bind_some, hi] at h; exact h.elim
      | some ds =>
        simp only [Option.bind_some, hi, Pv.R.of_some, Pv.R.bind_ok] at h
        rcases itD_inv hi with il | rfl
        · refine .inl ⟨g, s, m, ?_⟩
          rw [q]
          intro g1 H1 v t1 m1 rl1
          obtain ⟨b, vs, ev, hb, r⟩ := (OpR'.pk m1 rl1.1 hd).sql m1.wf il
          obtain ⟨m2, hk⟩ := hold_ok m1 rl1.1 hd
          refine ⟨b, ev, ⟨vs, by rw [hK]; exact hb⟩, h g1 H1 _ t1 m2 fun g2 s2 σ2 H2 t2 m3 hl i => ?_⟩
          obtain ⟨b', vs', ev', hb', r'⟩ := (hk g2 s2 σ2 H2 t2 m3 hl).sql m3.wf il
          rw [ev] at ev'
          cases ev'
          rw [hK]
          refine ⟨fun d hd => ?_, fun hle => ⟨vs', hb', by rw [r'.length]; exact hle⟩⟩
          obtain ⟨x, hx, rx⟩ := r'.get hd
          refine ⟨⟨vs', x, hb', hx⟩, fun x' H' y => ?_⟩
          obtain ⟨e1, e2⟩ := y
          subst e1
          have := e2 vs' hb'
          rw [hx] at this
          cases this
          exact ⟨g2, Gro.refl m3.wf, rx⟩
        · refine .inr ⟨g, s, m, ?_⟩
          rw [q]
          intro g1 H1 v t1 m1 rl1
          obtain ⟨b, vs, ev, hb, r⟩ := (OpR'.pk m1 rl1.1 hd).tup m1.wf
          obtain ⟨m2, hk⟩ := hold_ok m1 rl1.1 hd
          refine ⟨b, ev, ⟨vs, by rw [hK]; exact hb⟩, h g1 H1 _ t1 m2 fun g2 s2 σ2 H2 t2 m3 hl i => ?_⟩
          obtain ⟨b', vs', ev', hb', r'⟩ := (hk g2 s2 σ2 H2 t2 m3 hl).tup m3.wf
          rw [ev] at ev'
          cases ev'
          rw [hK]
          refine ⟨fun d hd => ?_, fun hle => ⟨vs', hb', by rw [r'.length]; exact hle⟩⟩
          obtain ⟨x, hx, rx⟩ := r'.get hd
          refine ⟨⟨vs', x, hb', hx⟩, fun x' H' y => ?_⟩
          obtain ⟨e1, e2⟩ := y
          subst e1
          have := e2 vs' hb'
          rw [hx] at this
          cases this
          exact ⟨g2, Gro.refl m3.wf, rx⟩
theorem walk_rng {lo : Int} {n : Nat} (g1 : Gh) (H1 : Hp) (s1 : St) : Walk K (Itr lo n) (rngD lo n) g1 H1 s1 := by
  intro g s σ H t m hl i
  refine ⟨fun d hd => ?_, fun hle => by rw [rngD_len] at hle; exact hle⟩
  obtain ⟨h1, rfl⟩ := rngD_get _ _ _ _ hd
  refine ⟨h1, fun x H' y => ?_⟩
  obtain ⟨e1, e2⟩ := y
  subst e1 e2
  exact ⟨g, Gro.refl m.wf, .int _⟩
theorem pk_ints {vs : List V} {ds : List D} {ns : List Int} (h : Paired (Pk K g H) vs ds) (e : ds = ns.map D.int) : vs = ns.map V.int := by
  subst e
  induction ns generalizing vs with
  | nil => cases h; rfl
  | cons n ns ih =>
    cases h with
    | cons h r =>
      rw [h.int, ih r]; rfl
theorem rng_bounds {n : Int} {ds : List D} (h : rngOf [.int n] = some ds) : -(2 ^ 62) ≤ n ∧ n < 2 ^ 62 ∧ ds = rngD 0 n.toNat := by
  simp only [rngOf] at h
  obtain ⟨h1, h2⟩ := some_ite h
  obtain ⟨a, b⟩ := Bool.and_eq_true_iff.mp h1
  exact ⟨of_decide_eq_true a, of_decide_eq_true b, h2.symm⟩
theorem rng_bounds2 {a b : Int} {ds : List D} (h : rngOf [.int a, .int b] = some ds) : (-(2 ^ 62) ≤ a ∧ a < 2 ^ 62 ∧ -(2 ^ 62) ≤ b ∧ b < 2 ^ 62) ∧ ds = rngD a (b - a).toNat := by
  simp only [rngOf] at h
  obtain ⟨h1, h2⟩ := some_ite h
  simp only [Bool.and_eq_true, decide_eq_true_eq] at h1
  exact ⟨⟨h1.1.1.1, h1.1.1.2, h1.1.2, h1.2⟩, h2.symm⟩
theorem rngOf_inv {ds es : List D} (h : rngOf ds = some es) : (∃ n, ds = [.int n]) ∨ ∃ a b, ds = [.int a, .int b] := by
  unfold rngOf at h
  split at h
  · exact .inl ⟨_, rfl⟩
  · exact .inr ⟨_, _, rfl⟩
  · cases h
theorem i_rng1 {tg iter : Expr} (hi : PI X tg iter (iRng1 (tA Z C ees))) (hl : esLen ees = 1) : PI X tg iter (tIt Z C (.rng ees)) := by
  refine PI.im hi ?_
  rintro σ H R ⟨g, s, m, h⟩
  simp only [evIt] at h
  cases q : evs C ees s with
  | no => rw [q] at h; exact h.elim
  | ex x s' => rw [q] at h; exact ⟨g, s, m, by rw [q]; exact h⟩
  | ok ps s1 =>
    rw [q] at h
    simp only [Pv.R.bind_ok] at h
    refine ⟨g, s, m, ?_⟩
    rw [q]
    intro g1 H1 vs t1 m1 rl1
    cases hd : (derefs s1 ps).bind rngOf with
    | none => rw [hd] at h; exact h.elim
    | some ds =>
      rw [hd] at h
      simp only [Pv.R.of_some, Pv.R.bind_ok] at h
      obtain ⟨xs, h1, h2⟩ := Option.bind_eq_some_iff.mp hd
      have pk := pks m1 rl1.1 h1
      have ln : xs.length = 1 := by
        rw [← Paired.length pk, OpRs.length rl1.1, evs_length q, hl]
      rcases rngOf_inv h2 with ⟨n, rfl⟩ | ⟨x, y, rfl⟩
      · obtain ⟨b1, b2, rfl⟩ := rng_bounds h2
        have ev := pk_ints (ns := [n]) pk rfl
        exact ⟨n, ev, b1, b2, h g1 H1 _ t1 m1 (walk_rng _ _ _)⟩
      · cases ln
theorem i_rng2 {tg iter : Expr} (hi : PI X tg iter (iRng2 (tA Z C ees))) (hl : esLen ees = 2) : PI X tg iter (tIt Z C (.rng ees)) := by
  refine PI.im hi ?_
  rintro σ H R ⟨g, s, m, h⟩
  simp only [evIt] at h
  cases q : evs C ees s with
  | no => rw [q] at h; exact h.elim
  | ex x s' => rw [q] at h; exact ⟨g, s, m, by rw [q]; exact h⟩
  | ok ps s1 =>
    rw [q] at h
    simp only [Pv.R.bind_ok] at h
    refine ⟨g, s, m, ?_⟩
    rw [q]
    intro g1 H1 vs t1 m1 rl1
    cases hd : (derefs s1 ps).bind rngOf with
    | none => rw [hd] at h; exact h.elim
    | some ds =>
      rw [hd] at h
      simp only [Pv.R.of_some, Pv.R.bind_ok] at h
      obtain ⟨xs, h1, h2⟩ := Option.bind_eq_some_iff.mp hd
      have pk := pks m1 rl1.1 h1
      have ln : xs.length = 2 := by
        rw [← Paired.length pk, OpRs.length rl1.1, evs_length q, hl]
      rcases rngOf_inv h2 with ⟨n, rfl⟩ | ⟨x, y, rfl⟩
      · cases ln
      · obtain ⟨b1, rfl⟩ := rng_bounds2 h2
        have ev := pk_ints (ns := [x, y]) pk rfl
        exact ⟨x, y, ev, b1, h g1 H1 _ t1 m1 (walk_rng _ _ _)⟩
/-- enumerate: one argument -/
theorem itL_inv {d : D} {ds : List D} (h : itL d = some ds) : isL d ds := by
  cases d with
  | lst xs => cases h; rfl
  | scr xs => cases h; rfl
  | _ => cases h
theorem hold_deref {p p2 : P} {d2 : D} {s2 : St} (hd2 : deref s2 p2 = some d2) : deref (hold p s2).1 p2 = some d2 := by
  cases p2 with
  | pv _ _ => exact hd2
  | pb _ => exact hd2
  | pc k2 =>
    have hd2 : (s2.ce[k2]?).map Cel.d = some d2 := hd2
    show ((hold p s2).1.ce[k2]?).map Cel.d = some d2
    cases p with
    | pv _ _ => exact hd2
    | pb _ => exact hd2
    | pc k =>
      cases hc : s2.ce[k]? with
      | none => simp only [hold, hc]; exact hd2
      | some c =>
        cases c with
        | he _ => simp only [hold, hc]; exact hd2
        | fz _ => simp only [hold, hc]; exact hd2
        | ow x =>
          simp only [hold, hc]
          have hlt : k < s2.ce.length := (List.getElem?_eq_some_iff.mp hc).1
          by_cases e : k = k2
          · subst e
            rw [List.getElem?_set_self hlt]
            rw [hc] at hd2
            exact hd2
          · rw [List.getElem?_set_ne e]
            exact hd2
theorem zip2_inv {d e : D} {xy : List D × List D} (h : zip2 d e = some xy) : (d = .tup xy.1 ∧ e = .tup xy.2) ∨ (isL d xy.1 ∧ isL e xy.2) := by
  unfold zip2 at h
  split at h
  · cases h; exact .inl ⟨rfl, rfl⟩
  · obtain ⟨xs, h1, h2⟩ := Option.bind_eq_some_iff.mp h
    obtain ⟨ys, h3, rfl⟩ := Option.map_eq_some_iff.mp h2
    exact .inr ⟨itL_inv h1, itL_inv h3⟩
theorem i_zip {tg iter : Expr} (hK : X.K = Z.K) (hi : PI X tg iter (RZ.iZipA X.K (tCons (tE Z C ea) (tCons (tE Z C eb) tNil)))) : PI X tg iter (tIt Z C (.zip ea eb)) := by
  refine PI.im hi ?_
  rintro σ H R ⟨g, s, m, h⟩
  simp only [evIt] at h
  cases q : ev C ea s with
  | no => rw [q] at h; exact h.elim
  | ex x s' => rw [q] at h; exact ⟨g, s, m, by rw [q]; exact h⟩
  | ok p s1 =>
    rw [q] at h
    simp only [Pv.R.bind_ok] at h
    refine ⟨g, s, m, ?_⟩
    rw [q]
    intro g1 H1 v t1 m1 rl1
    cases q2 : ev C eb s1 with
    | no => rw [q2] at h; exact h.elim
    | ex x s' => rw [q2] at h; exact ⟨g1, s1, m1, by rw [q2]; exact fun g' H' cls dx t m xr fx => h g' H' cls dx (t1.trans t) m xr (fx.back t1)⟩
    | ok p2 s2 =>
      rw [q2] at h
      simp only [Pv.R.bind_ok] at h
      refine ⟨g1, s1, m1, ?_⟩
      rw [q2]
      intro g2 H2 v2 t2 m2 rl2
      cases hd : deref s2 p with
      | none => rw [hd] at h; exact h.elim
      | some d =>
        rw [hd] at h
        cases hd2 : deref s2 p2 with
        | none => rw [hd2] at h; exact h.elim
        | some d2 =>
          rw [hd2] at h
          simp only [Option.bind_some] at h
          cases hz : zip2 d d2 with
          | none => rw [hz] at h; exact h.elim
          | some xy =>
            simp only [hz, Pv.R.of_some, Pv.R.bind_ok] at h
            obtain ⟨ds, ds2⟩ := xy
            have o1 := rl1.1.mono t2
            obtain ⟨m3, hk⟩ := hold_ok m2 o1 hd
            obtain ⟨m4, hk2⟩ := hold_ok m3 rl2.1 (hold_deref hd2)
            have hk' : ∀ g' s' σ' H', Stp g2 H2 g' H' → Sim Z.K g' s' σ' H' → Hl (hold p2 (hold p s2).1).1 s' → Pk Z.K g' H' v d := fun g' s' σ' H' t m hl => hk g' s' σ' H' t m ((hold_fx _ _).h.trans hl)
            have tt := t1.trans t2
            rcases zip2_inv hz with ⟨rfl, rfl⟩ | ⟨ix, iy⟩
            · obtain ⟨b, vs, ev, hb, r⟩ := (OpR'.pk m2 o1 hd).tup m2.wf
              obtain ⟨b2, vs2, ev2, hb2, r2⟩ := (OpR'.pk m2 rl2.1 hd2).tup m2.wf
              refine ⟨b, b2, vs, vs2, by rw [ev, ev2], .inr ⟨by rw [hK]; exact hb, by rw [hK]; exact hb2, h g2 H2 _ tt m4 fun g3 s3 σ3 H3 t3 m5 hl i => ?_⟩⟩
              obtain ⟨b', vs', ev', hb', r'⟩ := (hk' g3 s3 σ3 H3 t3 m5 hl).tup m5.wf
              obtain ⟨b2', vs2', ev2', hb2', r2'⟩ := (hk2 g3 s3 σ3 H3 t3 m5 hl).tup m5.wf
              rw [ev] at ev'
              rw [ev2] at ev2'
              cases ev'
              cases ev2'
              rw [hK]
              refine ⟨fun d hd => ?_, fun hle => ⟨vs', vs2', hb', hb2', by rw [r'.length, r2'.length]; rw [zipD_len] at hle; omega⟩⟩
              obtain ⟨e, f, he, hf, rfl⟩ := zipD_get _ _ _ _ hd
              obtain ⟨x, hx, rx⟩ := r'.get he
              obtain ⟨y, hy, ry⟩ := r2'.get hf
              refine ⟨⟨vs', vs2', x, y, hb', hb2', hx, hy⟩, fun x' H' yy => ?_⟩
              obtain ⟨T, x2, y2, rfl, hT, rfl, e2, e3⟩ := yy
              have a1 := e2 vs' hb'
              have a2 := e3 vs2' hb2'
              rw [hx] at a1
              rw [hy] at a2
              cases a1
              cases a2
              exact ⟨_, gro_tup m5.wf hT, rep_tup m5.wf hT (.cons rx (.cons ry .nil))⟩
            · obtain ⟨b, vs, ev, hb, r⟩ := (OpR'.pk m2 o1 hd).sql m2.wf ix
              obtain ⟨b2, vs2, ev2, hb2, r2⟩ := (OpR'.pk m2 rl2.1 hd2).sql m2.wf iy
              refine ⟨b, b2, vs, vs2, by rw [ev, ev2], .inl ⟨by rw [hK]; exact hb, by rw [hK]; exact hb2, h g2 H2 _ tt m4 fun g3 s3 σ3 H3 t3 m5 hl i => ?_⟩⟩
              obtain ⟨b', vs', ev', hb', r'⟩ := (hk' g3 s3 σ3 H3 t3 m5 hl).sql m5.wf ix
              obtain ⟨b2', vs2', ev2', hb2', r2'⟩ := (hk2 g3 s3 σ3 H3 t3 m5 hl).sql m5.wf iy
              rw [ev] at ev'
              rw [ev2] at ev2'
              cases ev'
              cases ev2'
              rw [hK]
              refine ⟨fun d hd => ?_, fun hle => ⟨vs', vs2', hb', hb2', by rw [r'.length, r2'.length]; rw [zipD_len] at hle; omega⟩⟩
              obtain ⟨e, f, he, hf, rfl⟩ := zipD_get _ _ _ _ hd
              obtain ⟨x, hx, rx⟩ := r'.get he
              obtain ⟨y, hy, ry⟩ := r2'.get hf
              refine ⟨⟨vs', vs2', x, y, hb', hb2', hx, hy⟩, fun x' H' yy => ?_⟩
              obtain ⟨T, x2, y2, rfl, hT, rfl, e2, e3⟩ := yy
              have a1 := e2 vs' hb'
              have a2 := e3 vs2' hb2'
              rw [hx] at a1
              rw [hy] at a2
              cases a1
              cases a2
              exact ⟨_, gro_tup m5.wf hT, rep_tup m5.wf hT (.cons rx (.cons ry .nil))⟩
end
end Pv

set_option Elab.async false
set_option linter.all false
set_option maxRecDepth 100000
namespace Pv
open PySem L2 PyProof.Rows

theorem wipe_get (σ : L2.St) (j : Nat) : ∀ l : List Nat, (wipe σ l)[j]? = if j ∈ l ∧ j < σ.length then some none else σ[j]?
  | [] => by simp [wipe]
  | v :: l => by
    have ih := wipe_get σ j l
    have hl := wipe_length σ l
    unfold wipe
    by_cases e : v = j
    · subst e
      by_cases q : v < σ.length
      · rw [List.getElem?_set_self (by rw [hl]; exact q), if_pos ⟨List.mem_cons_self, q⟩]
      · have : (wipe σ l).set v none = wipe σ l := List.set_eq_of_length_le (by rw [hl]; omega)
        rw [this, ih, if_neg (fun z => q z.2), if_neg (fun z => q z.2)]
    · rw [List.getElem?_set_ne e, ih]
      by_cases q : j ∈ l ∧ j < σ.length
      · rw [if_pos q, if_pos ⟨List.mem_cons_of_mem _ q.1, q.2⟩]
      · rw [if_neg q, if_neg fun z => q ⟨by rcases List.mem_cons.mp z.1 with z1 | z1; exact absurd z1.symm e; exact z1, z.2⟩]
theorem wipes_get (sl : List Slot) (j : Nat) : ∀ l : List Nat, (wipes sl l)[j]? = if j ∈ l ∧ j < sl.length then some .un else sl[j]?
  | [] => by simp [wipes]
  | v :: l => by
    have ih := wipes_get sl j l
    have hl : (wipes sl l).length = sl.length := by
      clear ih
      induction l with
      | nil => rfl
      | cons x l ih => unfold wipes; rw [List.length_set, ih]
    unfold wipes
    by_cases e : v = j
    · subst e
      by_cases q : v < sl.length
      · rw [List.getElem?_set_self (by rw [hl]; exact q), if_pos ⟨List.mem_cons_self, q⟩]
      · have : (wipes sl l).set v .un = wipes sl l := List.set_eq_of_length_le (by rw [hl]; omega)
        rw [this, ih, if_neg (fun z => q z.2), if_neg (fun z => q z.2)]
    · rw [List.getElem?_set_ne e, ih]
      by_cases q : j ∈ l ∧ j < sl.length
      · rw [if_pos q, if_pos ⟨List.mem_cons_of_mem _ q.1, q.2⟩]
      · rw [if_neg q, if_neg fun z => q ⟨by rcases List.mem_cons.mp z.1 with z1 | z1; exact absurd z1.symm e; exact z1, z.2⟩]
theorem wipes_len (sl : List Slot) : ∀ l : List Nat, (wipes sl l).length = sl.length
  | [] => rfl
  | v :: l => by unfold wipes; rw [List.length_set, wipes_len sl l]
theorem wipe_off {σ σ' : L2.St} {l own : List Nat} (h : Off l (wipe σ own) σ') (s : ∀ j ∈ l, j ∈ own) : wipe σ' own = wipe σ own := by
  have hl : σ'.length = σ.length := h.1.trans (wipe_length σ own)
  apply List.ext_getElem?
  intro j
  rw [wipe_get, wipe_get, hl]
  by_cases q : j ∈ own ∧ j < σ.length
  · rw [if_pos q, if_pos q]
  · rw [if_neg q, if_neg q]
    by_cases q2 : j < σ.length
    · have nj : j ∉ own := fun z => q ⟨z, q2⟩
      rw [h.2 j fun m => nj (s j m), wipe_get, if_neg q]
    · rw [List.getElem?_eq_none (by omega), List.getElem?_eq_none (by omega)]

section
variable {Z : Pm} {C : Cl} {X : Cx} {g g0 g1 : Gh} {H H0 H1 : Hp} {s s0 s1 : St} {σ σ1 : L2.St} {v : V} {d : D} {K : PySem.W.Frag}
theorem Sim.wipe (own : List Nat) (m : Sim K g s σ H) : Sim K g { s with sl := wipes s.sl own } (L2.wipe σ own) H where
  c := m.c
  len := by
    show (wipes s.sl own).length = _
    rw [wipes_len, wipe_length]
    exact m.len
  slot := fun i x e => by
    have e : (wipes s.sl own)[i]? = some x := e
    rw [wipes_get] at e
    rw [wipe_get, ← m.len]
    by_cases q : i ∈ own ∧ i < s.sl.length
    · rw [if_pos q] at e ⊢
      cases e
      exact ⟨none, rfl⟩
    · rw [if_neg q] at e ⊢
      exact m.slot i x e
theorem SimC.updD {ce : List Cel} {ob : List Ob} {a : Addr} {o : HO} (m : SimC g ce ob H) (hF : g.F a = none) (hc : a ∉ g.cp) : SimC g ce ob (upd H a o) where
  ex := fun b u e => by
    rw [upd_ne (by rintro rfl; rw [hF] at e; cases e)]
    exact m.ex _ _ e
  cn := m.cn
  cel := fun k x b e1 e2 => by
    have w := m.cel k x b e1 e2
    have n : b ≠ a := by
      rintro rfl
      exact hc (List.mem_of_getElem? e2)
    cases x with
    | ow y =>
      obtain ⟨w1, w2, u, w3, w4, w5⟩ := w
      exact ⟨w1, w2, u, (upd_ne n).trans w3, w4, w5⟩
    | he y =>
      obtain ⟨w1, w2, u, w3, w4, w5⟩ := w
      exact ⟨w1, w2, u, (upd_ne n).trans w3, w4, w5⟩
    | fz y => exact w
  cnd := m.cnd
  ρF := m.ρF
  ρc := m.ρc
  ob := m.ob
theorem Stp.updD {a : Addr} {o : HO} (t : Stp g0 H0 g H) (h0 : H0 a = none) : Stp g0 H0 g (upd H a o) where
  ρ := t.ρ
  F := t.F
  cp := t.cp
  fr := fun b u e h1 h2 => by
    rw [upd_ne (by rintro rfl; rw [h0] at e; cases e)]
    exact t.fr b u e h1 h2
  th := fun b u e => by
    by_cases q : b = a
    · subst q; rw [h0] at e; cases e
    · rw [upd_ne q]; exact t.th b u e
  nF := t.nF
  nc := t.nc
  nρ := t.nρ
theorem noEx_nex {α : Type} {r : R α} {x : Xc} {s : St} : noEx r ≠ .ex x s := by
  cases r <;> exact fun h => nomatch h
theorem drop_get {α : Type} {l : List α} {i : Nat} {x : α} (h : l[i]? = some x) : l.drop i = x :: l.drop (i + 1) := by
  obtain ⟨hl, rfl⟩ := List.getElem?_eq_some_iff.mp h
  exact List.drop_eq_getElem_cons hl
/-- tests -/
def tEnd (Z : Pm) (C : Cl) (c : Oe) : TT := tTo Z C c
theorem e_lc {elt tg iter : Expr} {ifs : List Expr} {scope : Scope} {own : List (Str × Nat)} {pos : Pos} {t : T} {it : It} {c : Oe} {e : E} (hc : X.calm = true) (hN : X.N.Nodup) (hi : PI X tg iter (tIt Z C it)) (ok : BlkOk X.N X.env.scope scope own)
    (hg : ∀ (s : Shared) (H : Hp) (C' : Addr) (cl : List (Str × Addr)) (fp : List Addr), PG (X.blk s H scope (compEnvC scope cl C' X.env) fp) tg (gD Z.nx C t)) (ht : ∀ (s : Shared) (H : Hp) (C' : Addr) (cl : List (Str × Addr)) (fp : List Addr), PTs (X.blk s H scope (compEnvC scope cl C' X.env) fp) ifs (tTo Z.nx C c))
    (he : ∀ (s : Shared) (H : Hp) (C' : Addr) (cl : List (Str × Addr)) (fp : List Addr), PE (X.blk s H scope (compEnvC scope cl C' X.env) fp) elt (tE Z.nx C e)) (hs : ∀ x, foldedSetIterable iter X.env x = pure x) (hsub : ∀ j ∈ tsl t, j ∈ own.map (·.2)) :
    PE X (.ListComp elt [⟨tg, iter, ifs, 0⟩] scope pos) (tLc (tIt Z C it) (gD Z.nx C t) (tTo Z.nx C c) (tE Z.nx C e) (own.map (·.2))) ∧
    ∀ σ H Q, tE Z C (.lc t it c e (own.map (·.2))) σ H Q → tLc (tIt Z C it) (gD Z.nx C t) (tTo Z.nx C c) (tE Z.nx C e) (own.map (·.2)) σ H Q := by
  refine ⟨pe_lc hc hN hi ok hg ht he hs, ?_⟩
  generalize own.map (·.2) = ow at hsub
  rintro σ H Q ⟨g, s, m, h⟩
  simp only [ev] at h
  refine ⟨g, s, m, ?_⟩
  cases q : evIt C it s with
  | no => rw [q] at h; exact h.elim
  | ex x s' => rw [q] at h; exact h
  | ok x s1 =>
    rw [q] at h
    simp only [Pv.R.bind_ok] at h
    intro g1 H1 J t1 m1 wk L hD
    have sl1 : s1.sl = s.sl := (evIt_fx it q).1.sl
    generalize hF : (fun (d : D) (s : St) => (asD C t d { s with sl := wipes s1.sl ow }).bind fun _ s => (evTo C c s).bind fun k s => if k then (ev C e s).bind fun p s => (keep p s).bind fun y s => .ok (some y) s else .ok none s) = F at h
    cases ql : noEx (lcLoop F x.1 s1) with
    | no => rw [ql] at h; exact h.elim
    | ex y s' => exact (noEx_nex ql).elim
    | ok ys s2 =>
      rw [ql] at h
      simp only [Pv.R.bind_ok] at h
      have el0 := noEx_inv ql
      by_cases hlim : ys.length ≤ lim
      · rw [if_pos hlim] at h
        have mw := m1.wipe ow
        have wr : ∀ (gi : Gh) (Hi : Hp) (ce : List Cel) (ob : List Ob), Stp g1 H1 gi Hi → SimC gi ce ob Hi → ∀ si : St, si.ce = ce → si.ob = ob → Sim Z.K gi { si with sl := wipes s1.sl ow } (wipe σ ow) Hi := fun gi Hi ce ob ti ci si e1 e2 => by
          have := Sim.of0 mw ti ci
          rw [← e1, ← e2] at this
          exact this
        let W : Nat → Nat → Hp → Prop := fun i k H' => k = x.1.length - i ∧ i ≤ x.1.length ∧ ∃ (gi : Gh) (si : St) (acc : List V) (ds ys' : List D), Stp g1 H1 gi H' ∧ SimC gi si.ce si.ob H' ∧ H' L = some (.lst acc) ∧ Reps gi.ρ gi.F acc ds ∧
          (gi.F L = none ∧ L ∉ gi.cp ∧ L ∉ gi.ρ) ∧ Hl s1 si ∧ lcLoop F (x.1.drop i) si = .ok ys' s2 ∧ ys = ds ++ ys'
        refine ⟨W, ⟨x.1.length, ?_⟩, ?_⟩
        · refine ⟨rfl, Nat.zero_le _, g1, s1, [], [], ys, (Stp.refl g1 H1).updD hD, ?_, upd_same, .nil, ?_, .refl _, el0, rfl⟩
          · refine m1.c.updD ?_ fun z => ?_
            · cases qq : g1.F L with
              | none => rfl
              | some u => rw [m1.c.ex _ _ qq] at hD; cases hD
            · obtain ⟨u, eu⟩ := m1.wf.cp L z
              rw [hD] at eu; cases eu
          · refine ⟨?_, fun z => ?_, fun z => ?_⟩
            · cases qq : g1.F L with
              | none => rfl
              | some u => rw [m1.c.ex _ _ qq] at hD; cases hD
            · obtain ⟨u, eu⟩ := m1.wf.cp L z
              rw [hD] at eu; cases eu
            · obtain ⟨u, eu⟩ := m1.wf.ρ L z
              rw [hD] at eu; cases eu
        · rintro i k H' ⟨rfl, hi', gi, si, acc, ds, ys', ti, ci, hDi, ri, ⟨fD1, fD2, fD3⟩, hl, el, ey⟩
          have mi := wr gi H' si.ce si.ob ti ci si rfl rfl
          have wki := wk gi _ _ H' ti mi (hl.trans (.of_ce rfl)) i
          by_cases hlt : i < x.1.length
          · refine .inr ?_
            have hx : x.1[i]? = some x.1[i] := List.getElem?_eq_getElem hlt
            obtain ⟨go, yld⟩ := wki.1 _ hx
            refine ⟨go, W (i + 1) (x.1.length - (i + 1)), fun H2 w => ⟨_, by omega, w⟩, fun x0 H2 hy => ?_⟩
            obtain ⟨g2, t2, r2⟩ := yld x0 H2 hy
            rw [drop_get hx] at el
            obtain ⟨o, sd, ef, el2⟩ := R.inv el
            obtain ⟨rs, s2', el3, el4⟩ := R.inv el2
            have e24 : s2' = s2 := by cases el4; rfl
            subst e24
            have ef0 := ef
            subst hF
            obtain ⟨_, sa, k1, ef⟩ := R.inv ef
            obtain ⟨b, sb, k2, ef⟩ := R.inv ef
            have hl1 : Hl s1 sb := (((hl.trans (Hl.of_ce (s := si) (s' := ⟨wipes s1.sl ow, si.ce, si.ob⟩) rfl)).trans (asD_hl t k1)).trans (evTo_fx c k2).h)
            refine ⟨g2, { si with sl := wipes s1.sl ow }, x.1[i], mi.gro t2, r2, ?_⟩
            rw [k1]
            intro g3 σ3 H3 t3 m3 off
            refine ⟨wipe_off off hsub, g3, sa, m3, ?_⟩
            rw [k2]
            intro g4 H4 b' t4 m4 eb
            have eb : b' = b := eb
            subst eb
            have T4 := (t2.stp.trans t3).trans t4
            obtain ⟨d1, d2, d3, d4⟩ := T4.keepF hDi fD1 fD2 fD3
            cases b' with
            | false =>
              rw [if_neg Bool.false_ne_true] at ef ⊢
              cases ef
              have ey' : ys' = rs := by cases el4; rfl
              subst ey'
              exact ⟨rfl, hlt, g4, _, acc, ds, _, ti.trans T4, m4.c, d1, ri.mono T4.ρ T4.F, ⟨d2, d3, d4⟩, hl1, el3, ey⟩
            | true =>
              rw [if_pos rfl] at ef ⊢
              obtain ⟨p, sc, k3, ef⟩ := R.inv ef
              obtain ⟨y, sd', k4, ef⟩ := R.inv ef
              have eo : o = some y ∧ sd = sd' := by cases ef; exact ⟨rfl, rfl⟩
              obtain ⟨rfl, rfl⟩ := eo
              have ey' : ys' = y :: rs := by cases el4; rfl
              subst ey'
              refine ⟨g4, sb, m4, ?_⟩
              rw [k3]
              intro g5 H5 yv t5 m5 rl5
              obtain ⟨g6, t6, m6, r6, _⟩ := keep_ok m4 t5 m5 (ev_fx e k3).sl rl5.1 rl5.2.1 k4
              have T6 := T4.trans t6
              obtain ⟨c1, c2, c3, c4⟩ := T6.keepF hDi fD1 fD2 fD3
              refine ⟨acc, c1, ?_, ?_⟩
              · rw [ri.length, ← lim_eq]
                rw [ey] at hlim
                simp at hlim
                omega
              · refine ⟨rfl, hlt, g6, sd, acc ++ [yv], ds ++ [y], rs, (ti.trans T6).updD hD, m6.c.updD c2 c3, upd_same, (ri.mono T6.ρ T6.F).append (.cons r6 .nil), ⟨c2, c3, c4⟩, ((hl1.trans (ev_fx e k3).h).trans (keep_fx k4).h), el3, ?_⟩
                rw [ey]
                simp
          · refine .inl ⟨wki.2 (by omega), ?_⟩
            have ei : i = x.1.length := by omega
            subst ei
            rw [List.drop_length] at el
            cases el
            have ed : ys = ds := by rw [ey]; simp
            subst ed
            have mf : Sim Z.K gi ⟨s1.sl, s2.ce, s2.ob⟩ σ H' := Sim.of0 m1 ti ci
            exact h gi H' (.ref L) (t1.trans ti) (letGos_ok _ mf) ⟨.fr rfl hDi trivial (.lst ri) fD1 fD2 fD3, fri (none_back t1 hD), trivial⟩
      · rw [if_neg hlim] at h; exact h.elim
end
end Pv

set_option Elab.async false
set_option linter.all false
set_option maxRecDepth 100000
namespace Pv
open PySem L2 PyProof.Rows

/-- what follows a statement -/
def PoS (Z : Pm) (g : Gh) (H : Hp) (r : R Fl) (D : Ends) : Prop :=
  match r with
  | .ok .nx s' => ∀ g' σ' H', Stp g H g' H' → Sim Z.K g' s' σ' H' → D.nx σ' H'
  | .ok .bk s' => ∀ g' σ' H', Stp g H g' H' → Sim Z.K g' s' σ' H' → D.bk σ' H'
  | .ok .ct s' => ∀ g' σ' H', Stp g H g' H' → Sim Z.K g' s' σ' H' → D.ct σ' H'
  | .ok (.rt p) s' => ∀ g' σ' H' v, Stp g H g' H' → Sim Z.K g' s' σ' H' → OpR' Z.K g' H' v p → FrI H v p → D.rt v H'
  | .ex x s' => ∀ g' σ' H' cls dx, Stp g H g' H' → Sim Z.K g' s' σ' H' → XcR Z.K Z.ec g' H' cls dx x → FrX H dx → Z.W cls dx σ' H'
  | .no => False
def tS (Z : Pm) (C : Cl) (st : S) : TS := fun D σ H => ∃ g s, Sim Z.K g s σ H ∧ PoS Z g H (ex C st s) D
def tSs (Z : Pm) (C : Cl) (st : Ss) : TS := fun D σ H => ∃ g s, Sim Z.K g s σ H ∧ PoS Z g H (exs C st s) D
section
variable {Z : Pm} {C : Cl} {X : Cx} {a b c e : Expr} {ea eb ec ee : E} {pos : Pos} {es : List Expr} {ees : Es} {g g0 g1 : Gh} {H H0 H1 : Hp} {s s0 s1 : St} {σ σ1 : L2.St} {v : V} {d : D}
theorem PS.im {st : Stmt} {t t' : TS} (h : PS X st t) (k : ∀ D σ H, t' D σ H → t D σ H) : PS X st t' := ⟨fun pins s σ H D I q => h.run pins s σ H D I (k D σ H q)⟩
theorem PSs.im {st : List Stmt} {t t' : TS} (h : PSs X st t) (k : ∀ D σ H, t' D σ H → t D σ H) : PSs X st t' := ⟨fun pins s σ H D I q => h.run pins s σ H D I (k D σ H q)⟩
theorem PS.or {st : Stmt} {t t' : TS} (h : PS X st t) (h' : PS X st t') : PS X st (fun D σ H => t D σ H ∨ t' D σ H) := ⟨fun pins s σ H D I q => q.elim (h.run pins s σ H D I) (h'.run pins s σ H D I)⟩
theorem PoS.step {r : R Fl} {D : Ends} (t : Stp g H g1 H1) (h : PoS Z g H r D) : PoS Z g1 H1 r D := by
  cases r with
  | ok fl s' =>
    cases fl with
    | nx => exact fun g' σ' H' t' m => h g' σ' H' (t.trans t') m
    | bk => exact fun g' σ' H' t' m => h g' σ' H' (t.trans t') m
    | ct => exact fun g' σ' H' t' m => h g' σ' H' (t.trans t') m
    | rt p => exact fun g' σ' H' v t' m o f => h g' σ' H' v (t.trans t') m o (f.back t)
  | ex x s' => exact fun g' σ' H' cls dx t' m rl fx => h g' σ' H' cls dx (t.trans t') m rl (fx.back t)
  | no => exact h
/-- an expression ahead of the rest: the ground stays -/
theorem PoS.seq {f : P → St → R Fl} {D : Ends} {Q1 : VK} (h : PoS Z g H ((ev C ee s).bind f) D)
    (k : ∀ v H1 g1 s1 p, ev C ee s = .ok p s1 → Stp g H g1 H1 → Sim Z.K g1 s1 σ H1 → RlE Z.K σ s.sl g1 H H1 v p → s1.sl = s.sl → PoS Z g H (f p s1) D → Q1 v H1) : Po Z σ g H (RlE Z.K σ s.sl) (ev C ee s) Q1 := by
  cases q : ev C ee s with
  | ok p s' =>
    rw [q] at h
    exact fun g' H' v t m rl => k v H' g' s' p q t m rl (ev_fx ee q).sl h
  | ex x s' =>
    rw [q] at h
    exact fun g' H' cls dx t m rl fx => h g' σ H' cls dx t m rl fx
  | no =>
    rw [q] at h
    exact h
theorem PoS.seqT {f : Bool → St → R Fl} {D : Ends} {Q1 : Bool → Hp → Prop} (h : PoS Z g H ((evT C ee s).bind f) D)
    (k : ∀ b H1 g1 s1, evT C ee s = .ok b s1 → Stp g H g1 H1 → Sim Z.K g1 s1 σ H1 → s1.sl = s.sl → PoS Z g H (f b s1) D → Q1 b H1) : Po Z σ g H RlB (evT C ee s) Q1 := by
  cases q : evT C ee s with
  | ok p s' =>
    rw [q] at h
    exact fun g' H' v t m rl => by
      have rl : v = p := rl
      subst rl
      exact k v H' g' s' q t m (evT_fx ee q).sl h
  | ex x s' =>
    rw [q] at h
    exact fun g' H' cls dx t m rl fx => h g' σ H' cls dx t m rl fx
  | no =>
    rw [q] at h
    exact h
theorem PoS.seqA {f : List P → St → R Fl} {D : Ends} {Q1 : List V → Hp → Prop} (h : PoS Z g H ((evs C ees s).bind f) D)
    (k : ∀ vs H1 g1 s1 ps, evs C ees s = .ok ps s1 → Stp g H g1 H1 → Sim Z.K g1 s1 σ H1 → RlA Z.K σ s.sl g1 H H1 vs ps → s1.sl = s.sl → PoS Z g H (f ps s1) D → Q1 vs H1) : Po Z σ g H (RlA Z.K σ s.sl) (evs C ees s) Q1 := by
  cases q : evs C ees s with
  | ok p s' =>
    rw [q] at h
    exact fun g' H' v t m rl => k v H' g' s' p q t m rl (evs_fx ees q).sl h
  | ex x s' =>
    rw [q] at h
    exact fun g' H' cls dx t m rl fx => h g' σ H' cls dx t m rl fx
  | no =>
    rw [q] at h
    exact h
/-! blocks -/
theorem ss_nil : PSs X [] (tSs Z C .nil) := PSs.im pss_nil fun D σ H ⟨g, s, m, h⟩ => h g σ H (.refl _ _) m
theorem ss_cons {st : Stmt} {rest : List Stmt} {t : S} {r : Ss} (h1 : PS X st (tS Z C t)) (h2 : PSs X rest (tSs Z C r)) : PSs X (st :: rest) (tSs Z C (.cons t r)) := by
  refine PSs.im (pss_cons h1 h2) ?_
  rintro D σ H ⟨g, s, m, h⟩
  simp only [exs] at h
  refine ⟨g, s, m, ?_⟩
  cases q : ex C t s with
  | no => rw [q] at h; exact h
  | ex x s' => rw [q] at h; exact h
  | ok fl s' =>
    rw [q] at h
    simp only [Pv.R.bind_ok] at h
    cases fl with
    | nx => exact fun g' σ' H' t' m' => ⟨g', s', m', PoS.step t' h⟩
    | bk => exact h
    | ct => exact h
    | rt p => exact h
/-! simple statements -/
theorem s_pss : PS X (.Pass pos) (tS Z C .pss) := PS.im ps_pass fun D σ H ⟨g, s, m, h⟩ => h g σ H (.refl _ _) m
theorem s_brk : PS X (.Break pos) (tS Z C .brk) := PS.im ps_break fun D σ H ⟨g, s, m, h⟩ => h g σ H (.refl _ _) m
theorem s_cnt : PS X (.Continue pos) (tS Z C .cnt) := PS.im ps_continue fun D σ H ⟨g, s, m, h⟩ => h g σ H (.refl _ _) m
theorem s_doc {x j pos pos'} : PS X (.Expr (.Constant (.str x) j pos) pos') (tS Z C .pss) := PS.im ps_doc fun D σ H ⟨g, s, m, h⟩ => h g σ H (.refl _ _) m
theorem s_ex (he : PE X e (tE Z C ee)) (hs : swapsWith e none pos.line X.env = pure false) : PS X (.Expr e pos) (tS Z C (.ex ee)) := by
  refine PS.im (ps_expr he hs) ?_
  rintro D σ H ⟨g, s, m, h⟩
  simp only [ex] at h
  exact ⟨g, s, m, PoS.seq h fun v H1 g1 s1 p e1 t1 m1 rl1 l1 h1 => h1 g1 σ H1 t1 m1⟩
theorem s_ret (he : PE X e (tE Z C ee)) : PS X (.Return (some e) pos) (tS Z C (.ret ee)) := by
  refine PS.im (ps_ret he) ?_
  rintro D σ H ⟨g, s, m, h⟩
  simp only [ex] at h
  exact ⟨g, s, m, PoS.seq h fun v H1 g1 s1 p e1 t1 m1 rl1 l1 h1 => h1 g1 σ H1 v t1 m1 rl1.1 rl1.2.1⟩
theorem s_ret0 : PS X (.Return none pos) (tS Z C .ret0) := by
  refine PS.im ps_retN ?_
  rintro D σ H ⟨g, s, m, h⟩
  exact h g σ H .non (.refl _ _) m (.va .non) trivial
theorem s_ife {A B : List Stmt} {sa sb : Ss} (hc : PT X c (tT Z C ec)) (ha : PSs X A (tSs Z C sa)) (hb : PSs X B (tSs Z C sb)) : PS X (.If c A B pos) (tS Z C (.ife ec sa sb)) := by
  refine PS.im (ps_if hc ha hb) ?_
  rintro D σ H ⟨g, s, m, h⟩
  simp only [ex] at h
  refine ⟨g, s, m, PoS.seqT h fun k H1 g1 s1 e1 t1 m1 l1 h1 => ?_⟩
  cases k with
  | true => rw [if_pos rfl] at h1 ⊢; exact ⟨g1, s1, m1, PoS.step t1 h1⟩
  | false => rw [if_neg Bool.false_ne_true] at h1 ⊢; exact ⟨g1, s1, m1, PoS.step t1 h1⟩
/-! stores -/
theorem putNm_nex {i : Nat} {p : P} {s s' : St} {x : Xc} : putNm i p s ≠ .ex x s' := by
  cases p with
  | pv d f => cases f <;> exact fun h => nomatch h
  | pb _ => exact fun h => nomatch h
  | pc _ => exact fun h => nomatch h
theorem asg_nm {i : Nat} {D : Ends} (h : PoS Z g H ((ev C ee s).bind fun p s => (asP C (.nm i) p s).bind fun _ s => .ok .nx s) D) (m : Sim Z.K g s σ H) : Po Z σ g H (RlE Z.K σ s.sl) (ev C ee s) (fun v H1 => D.nx (σ.set i (some v)) H1) := by
  refine PoS.seq h fun v H1 g1 s1 p e1 t1 m1 rl1 l1 h1 => ?_
  simp only [asP] at h1
  cases q : putNm i p s1 with
  | no => rw [q] at h1; exact h1.elim
  | ex x s' => exact (putNm_nex q).elim
  | ok u s2 =>
    rw [q] at h1
    obtain ⟨g2, t2, m2⟩ := putNm_ok m t1 m1 l1 rl1.1 rl1.2.1 q
    exact h1 g2 _ H1 t2 m2
theorem s_asg_nm {st : Stmt} {i : Nat} {te : TE} (hp : PS X st (tAsg te (gName i))) (hte : ∀ σ H Q, tE Z C ee σ H Q → te σ H Q) : PS X st (tS Z C (.asg (.nm i) ee)) := by
  refine PS.im hp ?_
  rintro D σ H ⟨g, s, m, h⟩
  simp only [ex] at h
  exact hte _ _ _ ⟨g, s, m, asg_nm h m⟩
theorem s_asg_sub {st : Stmt} {eo ei : E} (hK : X.K = Z.K) (hp : PS X st (tAsg (tE Z C ee) (gSub (tE Z C eo) (tE Z C ei) (rSetG X.K)))) : PS X st (tS Z C (.asg (.sub eo ei) ee)) := by
  refine PS.im hp ?_
  rintro D σ H ⟨g, s, m, h⟩
  simp only [ex] at h
  refine ⟨g, s, m, PoS.seq h fun v H1 g1 s1 p e1 t1 m1 rl1 l1 h1 => ?_⟩
  simp only [asP] at h1
  refine ⟨g1, s1, m1, ?_⟩
  cases q1 : ev C eo s1 with
  | no => rw [q1] at h1; exact h1.elim
  | ex x s' => rw [q1] at h1; exact fun g' H' cls dx t m xr fx => h1 g' σ H' cls dx (t1.trans t) m xr (fx.back t1)
  | ok po s2 =>
    rw [q1] at h1
    simp only [Pv.R.bind_ok] at h1
    intro g2 H2 vo t2 m2 rl2
    refine ⟨g2, s2, m2, ?_⟩
    cases q2 : ev C ei s2 with
    | no => rw [q2] at h1; exact h1.elim
    | ex x s' => rw [q2] at h1; exact fun g' H' cls dx t m xr fx => h1 g' σ H' cls dx ((t1.trans t2).trans t) m xr ((fx.back t2).back t1)
    | ok pi s3 =>
      rw [q2] at h1
      simp only [Pv.R.bind_ok] at h1
      intro g3 H3 vi t3 m3 rl3
      cases hd : deref s3 pi with
      | none => rw [hd] at h1; exact h1.elim
      | some k =>
        rw [hd] at h1
        simp only [Pv.R.of_some, Pv.R.bind_ok] at h1
        have T := (t1.trans t2).trans t3
        have l3 : s3.sl = s.sl := (((ev_fx eo q1).trans (ev_fx ei q2)).sl).trans l1
        cases qk : keep p s3 with
        | no => rw [qk] at h1; exact h1.elim
        | ex x s' => exact (keep_nex qk).elim
        | ok d s4 =>
          rw [qk] at h1
          simp only [Pv.R.bind_ok] at h1
          obtain ⟨g4, t4, m4, r4, k4⟩ := keep_ok m T m3 l3 ((rl1.1.mono t2).mono t3) rl1.2.1 qk
          have pk := OpR'.pk m3 rl3.1 hd
          have both : OpR' Z.K g4 H3 vo po ∧ Pk Z.K g4 H3 vi k ∨ ¬ ∃ s5, putAt po k d s4 = .ok () s5 := by
            by_cases hpo : ∃ j, po = .pc j
            · refine .inl ?_
              obtain ⟨j, rfl⟩ := hpo
              rcases k4 with ⟨a', _, f4, _⟩ | rfl
              · exact ⟨(rl2.1.mono t3).fz f4 (.inr (.inl ⟨j, rfl⟩)), pk.fz f4⟩
              · exact ⟨rl2.1.mono t3, pk⟩
            · refine .inr ?_
              rintro ⟨s5, h5⟩
              cases po with
              | pc j => exact hpo ⟨j, rfl⟩
              | pv _ _ => cases h5
              | pb _ => cases h5
          cases hp : putAt po k d s4 with
          | no => rw [hp] at h1; exact h1.elim
          | ex x s' => exact (putAt_nex hp).elim
          | ok u s5 =>
            rw [hp] at h1
            rcases both with ⟨b1, b2⟩ | nb
            · rw [hK]
              exact putAt_ok m4 r4 b1 b2 hp _ fun H' t5 m5 => h1 g4 σ H' (t4.trans t5) m5
            · exact absurd ⟨s5, hp⟩ nb
/-- a, b = a tuple, a list -/
theorem s_asg_tup {st : Stmt} {ts : Ts} {n : Nat} (hK : X.K = Z.K) (hp : PS X st (tAsg (tE Z C ee) (fun v σ H Q => gTup X.K n (gDs Z C ts) v σ H Q ∨ gLst X.K n (gDs Z C ts) v σ H Q)))
    (hl : ∀ (ds : List D) (s s' : St) (u : Unit), asDs C ts ds s = .ok u s' → ds.length = n) (hx : ∀ (ds : List D) (s s' : St) (x : Xc), asDs C ts ds s ≠ .ex x s') : PS X st (tS Z C (.asg (.tup ts) ee)) := by
  refine PS.im hp ?_
  rintro D σ H ⟨g, s, m, h⟩
  simp only [ex] at h
  refine ⟨g, s, m, PoS.seq h fun v H1 g1 s1 p e1 t1 m1 rl1 l1 h1 => ?_⟩
  simp only [asP] at h1
  cases hd : deref s1 p with
  | none => rw [hd] at h1; exact h1.elim
  | some d =>
    rw [hd] at h1
    simp only [Pv.R.of_some, Pv.R.bind_ok] at h1
    have fin : ∀ ds : List Pv.D, PoS Z g H ((asDs C ts ds s1).bind fun _ s => .ok .nx s) D → ds.length = n ∧ PoU Z (tsls ts) σ g1 H1 (asDs C ts ds s1) D.nx := fun ds h1 => by
      cases q : asDs C ts ds s1 with
      | no => rw [q] at h1; exact h1.elim
      | ex x s' => exact (hx ds s1 s' x q).elim
      | ok u s' =>
        rw [q] at h1
        exact ⟨hl ds s1 s' u q, fun g' σ' H' t' m' _ => h1 g' σ' H' (t1.trans t') m'⟩
    cases d with
    | tup ds =>
      obtain ⟨a, vs, rfl, ha, rs⟩ := (OpR'.pk m1 rl1.1 hd).tup m1.wf
      obtain ⟨f1, f2⟩ := fin ds h1
      exact .inl ⟨a, vs, rfl, by rw [hK]; exact ha, by rw [rs.length]; exact f1, g1, s1, ds, m1, rs, f2⟩
    | lst ds =>
      obtain ⟨a, vs, rfl, ha, rs⟩ := (OpR'.pk m1 rl1.1 hd).lst m1.wf
      obtain ⟨f1, f2⟩ := fin ds h1
      exact .inr ⟨a, vs, rfl, .inl (.inl ha), by rw [rs.length]; exact f1, g1, s1, ds, m1, rs, f2⟩
    | _ => exact h1.elim
/-! loops -/
theorem s_whl {body : List Stmt} {sb : Ss} (hp : PassesOwn (model X.prog X.w) X.A X.env X.xe) (hc : PT X c (tT Z C ec)) (hb : PSs X body (tSs Z C sb)) : PS X (.While c body [] pos) (tS Z C (.whl ec sb)) := by
  refine PS.im (ps_while hp hc hb) ?_
  rintro D σ H ⟨g, s, m, h⟩
  simp only [ex] at h
  refine ⟨fun n σ' H' => ∃ g' s', Sim Z.K g' s' σ' H' ∧ Stp g H g' H' ∧ PoS Z g H (whLoop (evT C ec) (exs C sb) n s') D, ⟨wfuel, g, s, m, .refl _ _, h⟩, ?_⟩
  rintro n σ' H' ⟨g', s', m', t', h'⟩
  cases n with
  | zero => exact h'.elim
  | succ n =>
    simp only [whLoop] at h'
    refine ⟨g', s', m', PoS.seqT (PoS.step t' h') fun k H1 g1 s1 e1 t1 m1 l1 h1 => ?_⟩
    cases k with
    | false =>
      rw [if_neg Bool.false_ne_true] at h1 ⊢
      exact h1 g1 σ' H1 t1 m1
    | true =>
      rw [if_pos rfl] at h1 ⊢
      refine ⟨fun σ2 H2 => ∃ g' s', Sim Z.K g' s' σ2 H2 ∧ Stp g H g' H2 ∧ PoS Z g H (whLoop (evT C ec) (exs C sb) n s') D, fun σ2 H2 w => ⟨n, Nat.lt_succ_self _, w⟩, g1, s1, m1, ?_⟩
      have T1 := t'.trans t1
      have h2 : PoS Z g H ((exs C sb s1).bind fun fl s => match fl with
        | .nx => whLoop (evT C ec) (exs C sb) n s
        | .ct => whLoop (evT C ec) (exs C sb) n s
        | .bk => .ok .nx s
        | .rt p => .ok (.rt p) s) D := by
        rw [e1] at h'
        simp only [Pv.R.bind_ok, if_true] at h'
        exact h'
      cases q : exs C sb s1 with
      | no => rw [q] at h2; exact h2
      | ex x s2 => rw [q] at h2; exact fun gg σg Hg cls dx t m xr fx => h2 gg σg Hg cls dx (T1.trans t) m xr (fx.back T1)
      | ok fl s2 =>
        rw [q] at h2
        simp only [Pv.R.bind_ok] at h2
        cases fl with
        | nx => exact fun g2 σ2 H2 t2 m2 => ⟨g2, s2, m2, T1.trans t2, h2⟩
        | ct => exact fun g2 σ2 H2 t2 m2 => ⟨g2, s2, m2, T1.trans t2, h2⟩
        | bk => exact fun g2 σ2 H2 t2 m2 => h2 g2 σ2 H2 (T1.trans t2) m2
        | rt p => exact fun g2 σ2 H2 v t2 m2 o f => h2 g2 σ2 H2 v (T1.trans t2) m2 o (f.back T1)
end
end Pv

set_option Elab.async false
set_option linter.all false
set_option maxRecDepth 100000
namespace Pv
open PySem L2 PyProof.Rows

theorem alloc_hl (p : P) (s : St) : Fx s (alloc p s).2 := by
  cases p with
  | pb _ => exact .refl _
  | pc _ => exact .refl _
  | pv d f =>
    cases f with
    | false => exact .refl _
    | true =>
      refine ⟨rfl, fun k d' x => ?_⟩
      unfold Hd at x ⊢
      have hlt : k < s.ce.length := by
        rcases x with x | x <;> exact (List.getElem?_eq_some_iff.mp x).1
      show (s.ce ++ [_])[k]? = _ ∨ (s.ce ++ [_])[k]? = _
      rw [List.getElem?_append_left hlt]
      exact x
theorem allocs_hl : ∀ (ps : List P) (s : St), Fx s (allocs ps s).2
  | [], s => .refl _
  | p :: ps, s => (alloc_hl p s).trans (allocs_hl ps _)
theorem asP_hl {C : Cl} {t : T} {p : P} {s s' : St} {u : Unit} (h : asP C t p s = .ok u s') : Hl s s' := by
  cases t with
  | nm i =>
    simp only [asP] at h
    exact putNm_hl h
  | sub o i =>
    simp only [asP] at h
    obtain ⟨p1, s1, h1, h⟩ := R.inv h
    obtain ⟨p2, s2, h2, h⟩ := R.inv h
    obtain ⟨k, h3, h⟩ := R.ofb h
    obtain ⟨d, s3, h4, h⟩ := R.inv h
    exact (((ev_fx o h1).h.trans (ev_fx i h2).h).trans (keep_fx h4).h).trans (putAt_fx h).h
  | tup ts =>
    simp only [asP] at h
    obtain ⟨d, h1, h⟩ := R.ofb h
    cases d with
    | tup ds => exact asDs_hl ts h
    | lst ds => exact asDs_hl ts h
    | _ => cases h
theorem asPs_hl {C : Cl} : ∀ {t : Ts} {p : List P} {s s' : St} {u : Unit}, asPs C t p s = .ok u s' → Hl s s'
  | .nil, [], s, s', u, h => by cases h; exact .refl _
  | .nil, _ :: _, s, s', u, h => by cases h
  | .cons t r, [], s, s', u, h => by cases h
  | .cons t r, p :: ps, s, s', u, h => by
    obtain ⟨_, s1, h1, h⟩ := R.inv h
    exact (asP_hl h1).trans (asPs_hl h)
theorem fr_hl {f : D → St → R Fl} (hf : ∀ d s o s', f d s = .ok o s' → Hl s s') : ∀ {ds : List D} {s s' : St} {r : Fl}, frLoop f ds s = .ok r s' → Hl s s'
  | [], s, s', r, h => by cases h; exact .refl _
  | d :: ds, s, s', r, h => by
    simp only [frLoop] at h
    obtain ⟨fl, s1, h1, h2⟩ := R.inv h
    refine (hf _ _ _ _ h1).trans ?_
    cases fl with
    | nx => exact fr_hl hf h2
    | ct => exact fr_hl hf h2
    | bk => cases h2; exact .refl _
    | rt p => cases h2; exact .refl _
theorem wh_hl {t : St → R Bool} {f : St → R Fl} (ht : ∀ s o s', t s = .ok o s' → Hl s s') (hf : ∀ s o s', f s = .ok o s' → Hl s s') : ∀ {n : Nat} {s s' : St} {r : Fl}, whLoop t f n s = .ok r s' → Hl s s'
  | 0, s, s', r, h => by cases h
  | n + 1, s, s', r, h => by
    simp only [whLoop] at h
    obtain ⟨b, s1, h1, h⟩ := R.inv h
    refine (ht _ _ _ h1).trans ?_
    cases b with
    | false => rw [if_neg Bool.false_ne_true] at h; cases h; exact .refl _
    | true =>
      rw [if_pos rfl] at h
      obtain ⟨fl, s2, h2, h⟩ := R.inv h
      refine (hf _ _ _ h2).trans ?_
      cases fl with
      | nx => exact wh_hl ht hf h
      | ct => exact wh_hl ht hf h
      | bk => cases h; exact .refl _
      | rt p => cases h; exact .refl _
mutual
theorem ex_hl {C : Cl} : ∀ (t : S) {s s' : St} {fl : Fl}, ex C t s = .ok fl s' → Hl s s'
  | .asg t e, s, s', fl, h => by
    simp only [ex] at h
    obtain ⟨p, s1, h1, h⟩ := R.inv h
    obtain ⟨_, s2, h2, h⟩ := R.inv h
    cases h
    exact (ev_fx e h1).h.trans (asP_hl h2)
  | .asgs ts es, s, s', fl, h => by
    simp only [ex] at h
    obtain ⟨p, s1, h1, h⟩ := R.inv h
    obtain ⟨_, s2, h2, h⟩ := R.inv h
    cases h
    exact ((evs_fx es h1).h.trans (allocs_hl _ _).h).trans (asPs_hl h2)
  | .ex e, s, s', fl, h => by
    simp only [ex] at h
    obtain ⟨p, s1, h1, h⟩ := R.inv h
    cases h
    exact (ev_fx e h1).h
  | .ret e, s, s', fl, h => by
    simp only [ex] at h
    obtain ⟨p, s1, h1, h⟩ := R.inv h
    cases h
    exact (ev_fx e h1).h
  | .ret0, s, s', fl, h => by cases h; exact .refl _
  | .ife t a b, s, s', fl, h => by
    simp only [ex] at h
    obtain ⟨k, s1, h1, h⟩ := R.inv h
    refine (evT_fx t h1).h.trans ?_
    cases k with
    | true => rw [if_pos rfl] at h; exact exs_hl a h
    | false => rw [if_neg Bool.false_ne_true] at h; exact exs_hl b h
  | .whl t b, s, s', fl, h => by
    simp only [ex] at h
    exact wh_hl (fun s o s' e => (evT_fx t e).h) (fun s o s' e => exs_hl b e) h
  | .fr t it b, s, s', fl, h => by
    simp only [ex] at h
    obtain ⟨x, s1, h1, h⟩ := R.inv h
    obtain ⟨fl', s2, h2, h⟩ := R.inv h
    cases h
    obtain ⟨f1, ow⟩ := evIt_fx it h1
    have hl : Hl s1 s2 := fr_hl (fun d s o s' e => by
      obtain ⟨_, t1, k1, e⟩ := R.inv e
      exact (asD_hl t k1).trans (exs_hl b e)) h2
    exact letGo_hls _ _ ow (f1.h.trans hl)
  | .rse c es, s, s', fl, h => by
    simp only [ex] at h
    obtain ⟨ps, s1, h1, h⟩ := R.inv h
    obtain ⟨ds, s2, h2, h⟩ := R.inv h
    cases h
  | .brk, s, s', fl, h => by cases h; exact .refl _
  | .cnt, s, s', fl, h => by cases h; exact .refl _
  | .pss, s, s', fl, h => by cases h; exact .refl _
  | .nvr, s, s', fl, h => by cases h
theorem exs_hl {C : Cl} : ∀ (t : Ss) {s s' : St} {fl : Fl}, exs C t s = .ok fl s' → Hl s s'
  | .nil, s, s', fl, h => by cases h; exact .refl _
  | .cons a r, s, s', fl, h => by
    simp only [exs] at h
    obtain ⟨f1, s1, h1, h⟩ := R.inv h
    refine (ex_hl a h1).trans ?_
    cases f1 with
    | nx => exact exs_hl r h
    | bk => cases h; exact .refl _
    | ct => cases h; exact .refl _
    | rt p => cases h; exact .refl _
end
section
variable {Z : Pm} {C : Cl} {X : Cx} {a b c e : Expr} {ea eb ec ee : E} {pos : Pos} {es : List Expr} {ees : Es} {g g0 g1 : Gh} {H H0 H1 : Hp} {s s0 s1 : St} {σ σ1 : L2.St} {v : V} {d : D}
theorem s_nvr {st : Stmt} : PS X st (tS Z C .nvr) := PS.im ps_never fun D σ H ⟨g, s, m, h⟩ => h
theorem s_for {tg iter : Expr} {body : List Stmt} {t : T} {it : It} {sb : Ss} (hp : PassesOwn (model X.prog X.w) X.A X.env X.xe) (hc : X.calm = true) (hi : PI X tg iter (tIt Z C it)) (hg : PG X tg (gD Z C t)) (hb : PSs X body (tSs Z C sb))
    (hs : ∀ x, foldedSetIterable iter X.env x = pure x) : PS X (.For tg iter body [] pos) (tS Z C (.fr t it sb)) := by
  refine PS.im (ps_for hp hc hi hg hb hs) ?_
  rintro D σ H ⟨g, s, m, h⟩
  simp only [ex] at h
  refine ⟨g, s, m, ?_⟩
  cases q : evIt C it s with
  | no => rw [q] at h; exact h.elim
  | ex x s' => rw [q] at h; exact fun g' H' cls dx t m xr fx => h g' σ H' cls dx t m xr fx
  | ok x s1 =>
    rw [q] at h
    simp only [Pv.R.bind_ok] at h
    intro g1 H1 J t1 m1 wk
    let F : Pv.D → St → R Fl := fun d s => (asD C t d s).bind fun _ s => exs C sb s
    let fin : Fl → St → R Fl := fun fl s => .ok fl (x.2.foldl (fun s o => letGo o s) s)
    refine ⟨fun i k σ' H' => k = x.1.length - i ∧ i ≤ x.1.length ∧ ∃ g' s', Sim Z.K g' s' σ' H' ∧ Stp g1 H1 g' H' ∧ Hl s1 s' ∧ PoS Z g H ((frLoop F (x.1.drop i) s').bind fin) D, ⟨x.1.length, rfl, Nat.zero_le _, g1, s1, m1, .refl _ _, .refl _, h⟩, ?_⟩
    rintro i k σ' H' ⟨rfl, hi', g', s', m', t', hl, h'⟩
    have wki := wk g' s' σ' H' t' m' hl i
    have T := t1.trans t'
    by_cases hlt : i < x.1.length
    · refine .inr ?_
      have hx : x.1[i]? = some x.1[i] := List.getElem?_eq_getElem hlt
      obtain ⟨go, yld⟩ := wki.1 _ hx
      refine ⟨go, fun σ2 H2 => ∃ g' s', Sim Z.K g' s' σ2 H2 ∧ Stp g1 H1 g' H2 ∧ Hl s1 s' ∧ PoS Z g H ((frLoop F (x.1.drop (i + 1)) s').bind fin) D, fun σ2 H2 w => ⟨x.1.length - (i + 1), by omega, rfl, hlt, w⟩, fun x0 H2 hy => ?_⟩
      obtain ⟨g2, t2, r2⟩ := yld x0 H2 hy
      rw [drop_get hx] at h'
      refine ⟨g2, s', x.1[i], m'.gro t2, r2, ?_⟩
      have T2 := T.trans t2.stp
      simp only [frLoop, F] at h'
      cases k1 : asD C t x.1[i] s' with
      | no => rw [k1] at h'; exact h'
      | ex y sx => rw [k1] at h'; exact fun gg σg Hg cls dx t m xr fx => h' gg σg Hg cls dx (T2.trans t) m xr (fx.back T2)
      | ok u sa =>
        rw [k1] at h'
        simp only [Pv.R.bind_ok] at h'
        intro g3 σ3 H3 t3 m3 _
        refine ⟨g3, sa, m3, ?_⟩
        have T3 := T2.trans t3
        have U3 := (t'.trans t2.stp).trans t3
        cases k2 : exs C sb sa with
        | no => rw [k2] at h'; exact h'
        | ex y sx => rw [k2] at h'; exact fun gg σg Hg cls dx t m xr fx => h' gg σg Hg cls dx (T3.trans t) m xr (fx.back T3)
        | ok fl sc =>
          rw [k2] at h'
          simp only [Pv.R.bind_ok] at h'
          have hl2 : Hl s1 sc := (hl.trans (asD_hl t k1)).trans (exs_hl sb k2)
          cases fl with
          | nx => exact fun g4 σ4 H4 t4 m4 => ⟨g4, sc, m4, U3.trans t4, hl2, h'⟩
          | ct => exact fun g4 σ4 H4 t4 m4 => ⟨g4, sc, m4, U3.trans t4, hl2, h'⟩
          | bk => exact fun g4 σ4 H4 t4 m4 => h' g4 σ4 H4 (T3.trans t4) (letGos_ok _ m4)
          | rt p => exact fun g4 σ4 H4 v t4 m4 o f => h' g4 σ4 H4 v (T3.trans t4) (letGos_ok _ m4) o (f.back T3)
    · refine .inl ⟨wki.2 (by omega), ?_⟩
      rw [List.drop_eq_nil_of_le (by omega)] at h'
      exact h' g' σ' H' T (letGos_ok _ m')

/-! several at once -/
theorem pb_old {K : PySem.W.Frag} {a : Addr} {o : HO} (m0 : Sim K g0 s0 σ H0) (sl : s.sl = s0.sl) (c : isC d = true) (pi : PbI K σ s.sl (.ref a) (.pb d)) : ∃ u, H0 a = some u := by
  have pi : (∃ i : Nat, s.sl[i]? = some (Slot.bo d) ∧ σ[i]? = some (some (V.ref a))) ∨ ∀ g H, Bo K g H (.ref a) d := pi
  have key : Bo K g0 H0 (.ref a) d → ∃ u, H0 a = some u := fun b => by
    cases b with
    | rep r' =>
      cases r' with
      | con _ h' _ => exact ⟨_, m0.c.ex _ _ h'⟩
      | tup _ _ => exact nomatch c
      | scr _ _ => exact nomatch c
      | obj _ => exact nomatch c
    | con _ h' _ _ _ _ => exact ⟨_, h'⟩
    | wr _ _ _ => exact nomatch c
    | ws _ _ _ => exact nomatch c
  rcases pi with ⟨i, e1, e2⟩ | all
  · rw [sl] at e1
    obtain ⟨w, e3, e4⟩ := m0.slot i _ e1
    rw [e2] at e3
    cases e3
    exact key e4
  · exact key (all g0 H0)
theorem OpR'.nc {K : PySem.W.Frag} {p : P} {a : Addr} (o : OpR' K g H v p) (h : ∀ (b : Addr) (d : D), v = .ref b → (p = .pv d true ∨ (p = .pb d ∧ isC d = true)) → b ≠ a) : OpR' K (g.nc a) H v p := by
  cases o with
  | va r => exact .va r
  | @fr b o d c hh m r hF hc hρ =>
    refine .fr c hh m r hF (fun z => ?_) hρ
    rcases List.mem_append.mp z with z | z
    · exact hc z
    · exact h b d rfl (.inl rfl) (by simpa using z)
  | ce hk => exact .ce (PreL.app _ _ _ _ hk)
  | @bo v d b =>
    refine .bo ?_
    cases b with
    | rep r => exact .rep r
    | @con b o d c hh r hF hc hρ =>
      refine .con c hh r hF (fun z => ?_) hρ
      rcases List.mem_append.mp z with z | z
      · exact hc z
      · exact h b d rfl (.inr ⟨rfl, c⟩) (by simpa using z)
    | wr a b c => exact .wr a b c
    | ws a b c => exact .ws a b c
def noFr : List P → Prop
  | [] => True
  | .pv _ true :: _ => False
  | _ :: r => noFr r
theorem allocs_ok {K : PySem.W.Frag} : ∀ {vs : List V} {ps : List P} {g : Gh} {s : St}, Sim K g0 s0 σ H0 → Stp g0 H0 g H → Sim K g s σ H → s.sl = s0.sl → OpRs K g H vs ps → PbIs K σ s0.sl vs ps → (∀ v ∈ frs vs ps, ∀ a, v = .ref a → H0 a = none) → (frs vs ps).Nodup →
    ∃ g', Stp g0 H0 g' H ∧ Sim K g' (allocs ps s).2 σ H ∧ OpRs K g' H vs (allocs ps s).1 ∧ noFr (allocs ps s).1 ∧ PreL g.cp g'.cp ∧ g'.F = g.F ∧ g'.ρ = g.ρ ∧ ∀ b ∈ g'.cp, b ∈ g.cp ∨ H0 b = none
  | _, _, g, s, m0, t, m, sl, .nil, _, _, _ => ⟨g, t, m, .nil, trivial, .refl _, rfl, rfl, fun _ h => .inl h⟩
  | _, _, g, s, m0, t, m, sl, .cons (v := v) (p := p) (vs := vs) (ps := ps) o r, .cons pi pis, fi, nd => by
    have fi1 : FrI H0 v p := by
      cases p with
      | pv d' f =>
        cases f with
        | false => exact trivial
        | true =>
          intro a ea
          refine fi v ?_ a ea
          unfold frs
          rw [List.zip_cons_cons, List.filterMap_cons]
          exact List.mem_cons_self
      | _ => exact trivial
    obtain ⟨g1, t1, m1, l1, o1, _, k1⟩ := alloc_ok m0 t m sl o fi1
    have hop : OpR' K g1 H v (alloc p s).1 ∧ noFr [(alloc p s).1] := by
      refine ⟨o1, ?_⟩
      cases p with
      | pv d f => cases f <;> exact trivial
      | pb _ => exact trivial
      | pc _ => exact trivial
    have r1 : OpRs K g1 H vs ps ∧ PreL g.cp g1.cp ∧ g1.F = g.F ∧ g1.ρ = g.ρ ∧ ∀ b ∈ g1.cp, b ∈ g.cp ∨ H0 b = none := by
      rcases k1 with rfl | ⟨a, ea, rfl, d, ed⟩
      · exact ⟨r, .refl _, rfl, rfl, fun _ h => .inl h⟩
      · subst ed ea
        have hn : V.ref a ∉ frs vs ps := frs_hd nd
        have ha0 : H0 a = none := fi1 a rfl
        refine ⟨?_, .app _ _, rfl, rfl, fun b hb => (List.mem_append.mp hb).imp id fun z => by
          have : b = a := by simpa using z
          rw [this]; exact ha0⟩
        clear o1 hop l1 m1 t1 fi1 o
        have fi' : ∀ v ∈ frs vs ps, ∀ a, v = .ref a → H0 a = none := fun x hx => fi x (frs_sub hx)
        clear fi nd
        induction r with
        | nil => exact .nil
        | @cons v' p' vs' ps' o' r' ih =>
          cases pis with
          | cons pi' pis' =>
            have pi2 := pi'
            refine .cons (o'.nc fun b d' eb hp => ?_) (ih pis' (fun z => hn (frs_sub z)) fun x hx => fi' x (frs_sub hx))
            rintro rfl
            subst eb
            rcases hp with rfl | ⟨rfl, c⟩
            · refine hn ?_
              unfold frs
              rw [List.zip_cons_cons, List.filterMap_cons]
              exact List.mem_cons_self
            · obtain ⟨u, hu⟩ := pb_old (s := s0) (o := .lst []) m0 rfl c pi2
              rw [hu] at ha0; cases ha0
    obtain ⟨r1, e1, e2, e3, e4⟩ := r1
    obtain ⟨g2, t2, m2, r2, n2, f1, f2, f3, f4⟩ := allocs_ok m0 t1 m1 (l1.trans sl) r1 pis (fun x hx => fi x (frs_sub hx)) (frs_nd nd)
    refine ⟨g2, t2, m2, .cons ?_ r2, ?_, e1.trans f1, f2.trans e2, f3.trans e3, fun b hb => (f4 b hb).elim (e4 b) .inr⟩
    · obtain ⟨h1, h2⟩ := hop
      generalize hp1 : (alloc p s).1 = p1 at h1 h2
      cases h1 with
      | va r => exact .va (by rw [f2, f3]; exact r)
      | fr _ _ _ _ _ _ _ => exact h2.elim
      | ce hk => exact .ce (f1 _ _ hk)
      | @bo _ dd b =>
        refine .bo ?_
        cases b with
        | rep r => exact .rep (by rw [f2, f3]; exact r)
        | wr a b c => exact .wr a b (by rw [f2, f3]; exact c)
        | ws a b c => exact .ws a b (by rw [f2, f3]; exact c)
        | @con b o d c hh r hF hc hρ =>
          refine .con c hh (by rw [f2, f3]; exact r) (by rw [f2]; exact hF) (fun z => ?_) (by rw [f3]; exact hρ)
          rcases f4 b z with z | z
          · exact hc z
          · have ep : p = .pb dd := by
              cases p with
              | pv d' f => cases f <;> exact nomatch hp1
              | pc _ => exact nomatch hp1
              | pb d' => exact hp1
            subst ep
            obtain ⟨u, hu⟩ := pb_old (s := s0) (o := .lst []) m0 rfl c pi
            rw [hu] at z; cases z
    · obtain ⟨_, h2⟩ := hop
      show noFr ((alloc p s).1 :: (allocs ps (alloc p s).2).1)
      generalize (alloc p s).1 = p1 at h2
      cases p1 with
      | pv d f => cases f with
        | true => exact h2.elim
        | false => exact n2
      | pb _ => exact n2
      | pc _ => exact n2
theorem noFr_hd {p : P} {ps : List P} (h : noFr (p :: ps)) : (∀ v, FrI H v p) ∧ noFr ps := by
  cases p with
  | pv d f =>
    cases f with
    | true => exact h.elim
    | false => exact ⟨fun _ => trivial, h⟩
  | pc _ => exact ⟨fun _ => trivial, h⟩
  | pb _ => exact ⟨fun _ => trivial, h⟩
/-- names, one after another -/
def nmTs : List Nat → Ts
  | [] => .nil
  | i :: r => .cons (.nm i) (nmTs r)
def setsV : List Nat → List V → L2.St → L2.St
  | i :: is, v :: vs, σ => setsV is vs (σ.set i (some v))
  | _, _, σ => σ
theorem asPs_nm : ∀ {is : List Nat} {vs : List V} {ps : List P} {g : Gh} {s : St} {σ : L2.St}, Sim Z.K g s σ H → OpRs Z.K g H vs ps → noFr ps →
    (asPs C (nmTs is) ps s = .no) ∨ ∃ s', asPs C (nmTs is) ps s = .ok () s' ∧ vs.length = is.length ∧ ∃ g', Stp g H g' H ∧ Sim Z.K g' s' (setsV is vs σ) H
  | [], _, _, g, s, σ, m, .nil, _ => .inr ⟨s, rfl, rfl, g, .refl _ _, m⟩
  | [], _, _, g, s, σ, m, .cons _ _, _ => .inl rfl
  | _ :: _, _, _, g, s, σ, m, .nil, _ => .inl rfl
  | i :: is, _, _, g, s, σ, m, .cons (v := v) (p := p) (vs := vs) (ps := ps) o r, nf => by
    obtain ⟨n1, n2⟩ := noFr_hd (H := H) nf
    simp only [nmTs, asPs, asP]
    cases q : putNm i p s with
    | no => exact .inl rfl
    | ex x s' => exact (putNm_nex q).elim
    | ok u s1 =>
      obtain ⟨g1, t1, m1⟩ := putNm_ok m (.refl _ _) m rfl o (n1 v) q
      simp only [Pv.R.bind_ok]
      rcases asPs_nm (is := is) m1 (r.mono t1) n2 with z | ⟨s', z1, z2, g2, t2, m2⟩
      · exact .inl z
      · exact .inr ⟨s', z1, by rw [List.length_cons, List.length_cons, z2], g2, t1.trans t2, m2⟩
theorem asgs_ok {is : List Nat} {D : Ends} (m : Sim Z.K g s σ H) (h : PoS Z g H (ex C (.asgs (nmTs is) ees) s) D) :
    Po Z σ g H (RlA Z.K σ s.sl) (evs C ees s) (fun vs H1 => vs.length = is.length ∧ D.nx (setsV is vs σ) H1) := by
  simp only [ex] at h
  refine PoS.seqA h fun vs H1 g1 s1 ps e1 t1 m1 rl1 l1 h1 => ?_
  obtain ⟨o, fi, nd, pi⟩ := rl1
  obtain ⟨g2, t2, m2, o2, n2, _⟩ := allocs_ok m t1 m1 l1 o pi fi nd
  rcases asPs_nm (C := C) (is := is) m2 o2 n2 with z | ⟨s', z1, z2, g3, t3, m3⟩
  · rw [z] at h1; exact h1.elim
  · rw [z1] at h1
    exact ⟨z2, h1 g3 _ H1 (t2.trans t3) m3⟩
theorem s_asgs2 {st : Stmt} {i j : Nat} (hp : PS X st (tPar i j (tA Z C ees))) : PS X st (tS Z C (.asgs (nmTs [i, j]) ees)) := by
  refine PS.im hp ?_
  rintro D σ H ⟨g, s, m, h⟩
  refine ⟨g, s, m, (asgs_ok m h).mono fun vs H' ⟨hl, q⟩ => ?_⟩
  match vs, hl, q with
  | [v, w], _, q => exact ⟨v, w, rfl, q⟩
theorem s_asgs3 {st : Stmt} {i j k : Nat} (hp : PS X st (tPar3 i j k (tA Z C ees))) : PS X st (tS Z C (.asgs (nmTs [i, j, k]) ees)) := by
  refine PS.im hp ?_
  rintro D σ H ⟨g, s, m, h⟩
  refine ⟨g, s, m, (asgs_ok m h).mono fun vs H' ⟨hl, q⟩ => ?_⟩
  match vs, hl, q with
  | [v, w, u], _, q => exact ⟨v, w, u, rfl, q⟩
end
end Pv

set_option Elab.async false
set_option linter.all false
set_option maxRecDepth 100000
namespace Pv
open PySem L2 PySem.Spec PyProof.Rows

/-! ### tuple(range(..)), list(range(..)) -/
theorem reps_rng {ρ F} (n : Nat) : ∀ lo : Int, Reps ρ F ((List.range n).map fun i => V.int (lo + (i : Nat))) (rngD lo n) := by
  induction n with
  | zero => intro lo; exact .nil
  | succ n ih =>
    intro lo
    rw [List.range_succ_eq_map, List.map_cons, List.map_map]
    have e : (fun i : Nat => V.int (lo + (i : Nat))) ∘ Nat.succ = fun i : Nat => V.int (lo + 1 + (i : Nat)) := by
      funext i
      simp only [Function.comp]
      congr 1
      push_cast
      omega
    rw [e]
    simp only [rngD]
    exact .cons (by simpa using Rep.int (ρ := ρ) (F := F) lo) (ih (lo + 1))
theorem rgOk_is {a b : Int} (h : rgOk a b = true) : RgOk a b := by
  unfold rgOk at h
  simp only [Bool.and_eq_true, decide_eq_true_eq] at h
  exact ⟨h.1.1.1.1, h.1.1.1.2, h.1.1.2, h.1.2, h.2⟩
theorem rgOf_inv {t : Bool} {a b : Int} {r : D × Bool} (h : rgOf t a b = some r) : RgOk a b ∧ r = if t then (.tup (rngD a (b - a).toNat), false) else (.lst (rngD a (b - a).toNat), true) := by
  unfold rgOf at h
  obtain ⟨h1, h2⟩ := some_ite h
  exact ⟨rgOk_is h1, h2.symm⟩
section
variable {Z : Pm} {C : Cl} {X : Cx} {a b c e : Expr} {ea eb ec ee : E} {pos : Pos} {es : List Expr} {ees : Es} {g g0 g1 : Gh} {H H0 H1 : Hp} {s s0 s1 : St} {σ σ1 : L2.St} {v : V} {d : D}
theorem rg_fin {t : Bool} {lo hi : Int} {r : D × Bool} {Q : VK} (w : Wf g H) (hr : r = if t then (.tup (rngD lo (hi - lo).toNat), false) else (.lst (rngD lo (hi - lo).toNat), true)) (q : Out Z.K g H r Q) :
    if t = true then ∀ p, H p = none → Q (.ref p) (upd H p (.tup (rgV lo hi))) else ∀ p, H p = none → Q (.ref p) (upd H p (.lst (rgV lo hi))) := by
  subst hr
  cases t with
  | true => exact q.tup w (reps_rng _ lo)
  | false => exact q.lst w (reps_rng _ lo)
theorem e_rg1 {t : Bool} (he : PE X e (if t = true then tTupRg (tRg1 (tE Z C ea)) else tLstRg (tRg1 (tE Z C ea)))) : PE X e (tE Z C (.rg1 t ea)) := by
  refine PE.im he ?_
  rintro σ H Q ⟨g, s, m, h⟩
  simp only [ev] at h
  have key : tRg1 (tE Z C ea) σ H fun x y H1 => RgOk x y ∧ if t = true then ∀ p, H1 p = none → Q (.ref p) (upd H1 p (.tup (rgV x y))) else ∀ p, H1 p = none → Q (.ref p) (upd H1 p (.lst (rgV x y))) := by
    refine ⟨g, s, m, Po.seq rsE_ok h fun v H1 g1 s1 p e1 t1 m1 rl1 l1 h1 => ?_⟩
    obtain ⟨r, er, h3⟩ := Po.ret h1
    obtain ⟨x, y, d1, f, rfl⟩ := op1_inv er
    obtain ⟨n, f1, f2⟩ := Option.bind_eq_some_iff.mp f
    have d2 : deref s1 p = some (.int n) := by
      cases x <;> cases f1
      exact d1
    obtain ⟨ok, hr⟩ := rgOf_inv f2
    exact ⟨n, (OpR'.pk m1 rl1.1 d2).int, ok, rg_fin m1.wf hr (Po.out m1 h3)⟩
  cases t with
  | true => exact key
  | false => exact key
theorem e_rg2 {t : Bool} (he : PE X e (if t = true then tTupRg (tRg2 (tE Z C ea) (tE Z C eb)) else tLstRg (tRg2 (tE Z C ea) (tE Z C eb)))) : PE X e (tE Z C (.rg2 t ea eb)) := by
  refine PE.im he ?_
  rintro σ H Q ⟨g, s, m, h⟩
  simp only [ev] at h
  have key : tRg2 (tE Z C ea) (tE Z C eb) σ H fun x y H1 => RgOk x y ∧ if t = true then ∀ p, H1 p = none → Q (.ref p) (upd H1 p (.tup (rgV x y))) else ∀ p, H1 p = none → Q (.ref p) (upd H1 p (.lst (rgV x y))) := by
    refine ⟨g, s, m, Po.seq rsE_ok h fun v H1 g1 s1 p e1 t1 m1 rl1 l1 h1 => ⟨g1, s1, m1, Po.seq rsE_ok h1 fun w H2 g2 s2 q e2 t2 m2 rl2 l2 h2 => ?_⟩⟩
    obtain ⟨r, er, h3⟩ := Po.ret h2
    obtain ⟨x, y, z, d1, d2, f, rfl⟩ := op2_inv er
    obtain ⟨n, f1, f2⟩ := Option.bind_eq_some_iff.mp f
    obtain ⟨k, f3, f4⟩ := Option.bind_eq_some_iff.mp f2
    have d1' : deref s2 p = some (.int n) := by
      cases x <;> cases f1
      exact d1
    have d2' : deref s2 q = some (.int k) := by
      cases y <;> cases f3
      exact d2
    obtain ⟨ok, hr⟩ := rgOf_inv f4
    exact ⟨n, k, (OpR'.pk m2 (rl1.1.mono t2) d1').int, (OpR'.pk m2 rl2.1 d2').int, ok, rg_fin m2.wf hr (Po.out m2 h3)⟩
  cases t with
  | true => exact key
  | false => exact key
end

/-! ### {k: v for ..} -/
def PutC (H : Hp) (D : Addr) (y z : V) (o' : HO) : Prop :=
  DPut H D y z (upd H D o') ∨ (H D = some (.dK []) ∧ DPut (upd H D (.dT [])) D y z (upd H D o')) ∨ (H D = some (.dT []) ∧ DPut (upd H D (.dK [])) D y z (upd H D o'))
section
variable {X : Cx} {pins : List (Addr × Obj)} {σ : L2.St} {g : Gh} {H : Hp} {s : Shared} {y v : V} {d e : D} {ks vs : List D}
theorem with_putC {a : Addr} {o : HO} (w : Wf g H) (ha : H a = some o) (ro : RepO g.ρ g.F o (.dct ks vs)) (py : Pk X.K g H y d) (ko : keyOk ks d = true) (hl : ks.length < lim) (rv : Rep g.ρ g.F v e) :
    ∃ o', PutC H a y v o' ∧ Mut (some o') ∧ RepO g.ρ g.F o' (.dct (putD ks vs d e).1 (putD ks vs d e).2) := by
  have hl' : ks.length < sizeLine := lim_eq ▸ hl
  unfold keyOk at ko
  cases ro with
  | @dK kvs ds r =>
    rcases Bool.or_eq_true_iff.mp ko with h | h
    · obtain ⟨h1, h2⟩ := Bool.and_eq_true_iff.mp h
      obtain ⟨k, rfl⟩ := leaf_is h1
      have ey := py.leafkey
      subst ey
      have q := put_any (ρ := g.ρ) (F := g.F) kD eq_kD k rv kvs vs r
      refine ⟨.dK (putK kvs k v), .inl (DPut.k ha (by simpa using hl')), trivial, ?_⟩
      rw [q.1]
      exact .dK q.2
    · obtain ⟨h1, h2⟩ := Bool.and_eq_true_iff.mp h
      obtain ⟨ls, rfl⟩ := tup_is h1
      obtain ⟨b, rfl, hb⟩ := py.tupkey w
      cases kvs with
      | cons kv kvs =>
        rw [List.map_cons, List.all_cons, leaf_not_tup] at h2
        exact nomatch h2
      | nil =>
        have hne : b ≠ a := fun z => by rw [z, ha] at hb; cases hb
        cases r
        exact ⟨.dT (putK [] ls v), .inr (.inl ⟨ha, .inr ⟨[], ls, b, upd_same, rfl, by rw [upd_ne hne]; exact hb, Nat.lt_of_le_of_lt (Nat.zero_le _) hl', by rw [upd_upd]⟩⟩), trivial, .dT (kvs := [(ls, v)]) (.cons rv .nil)⟩
  | @dT kvs ds r =>
    rcases Bool.or_eq_true_iff.mp ko with h | h
    · obtain ⟨h1, h2⟩ := Bool.and_eq_true_iff.mp h
      obtain ⟨k, rfl⟩ := leaf_is h1
      have ey := py.leafkey
      subst ey
      cases kvs with
      | cons kv kvs => exact nomatch h2
      | nil =>
        cases r
        exact ⟨.dK (putK [] k v), .inr (.inr ⟨ha, .inl ⟨[], k, upd_same, rfl, Nat.lt_of_le_of_lt (Nat.zero_le _) hl', by rw [upd_upd]⟩⟩), trivial, .dK (kvs := [(k, v)]) (.cons rv .nil)⟩
    · obtain ⟨h1, h2⟩ := Bool.and_eq_true_iff.mp h
      obtain ⟨ls, rfl⟩ := tup_is h1
      obtain ⟨b, rfl, hb⟩ := py.tupkey w
      have q := put_any (ρ := g.ρ) (F := g.F) (fun l : List Key => D.tup (l.map kD)) eq_tD ls rv kvs vs r
      refine ⟨.dT (putK kvs ls v), .inl (DPut.t ha hb (by simpa using hl')), trivial, ?_⟩
      have q1 : (putD (kvs.map fun kv => D.tup (kv.1.map kD)) vs (.tup (ls.map kD)) e).1 = (putK kvs ls v).map fun kv => D.tup (kv.1.map kD) := q.1
      rw [q1]
      exact .dT q.2
theorem dictSet_put {A : Around} {E : Value → Shared → Prop} {D : Addr} {H' : Hp} {u r : Value} {Q : Unit → Shared → Prop} (hu : A.units + 1 < cLine) (I : Inv X pins σ H s) (q : DPut H D y v H') (ry : RelV y u) (rv : RelV v r) (h : ∀ s', Inv X pins σ H' s' → Q () s') :
    wpAny (model X.prog X.w) A (dictSet D u r) Q E s := by
  rcases q with ⟨kvs, k, e, ey, l, eH⟩ | ⟨kvs, k, b, e, ey, eb, l, eH⟩
  · subst ey eH
    obtain ⟨z, hd, vs, rel, dd⟩ := dk_of I.hok e
    have hz : vs.length ≤ sizeLine := by rw [← rel.length]; exact z
    have hl : (putK kvs k v).length ≤ sizeLine := by have := length_putK kvs k v; omega
    refine wpAny_dictSet_pairs (hsz := hz) (kV_is ry) dd fun h' dd' hs => h _ ?_
    have he : ∃ q, h'.get? D = some q := let ⟨q, _, _, hq, _⟩ := dd'; ⟨q, hq⟩
    exact d_write I (by rw [e]; exact True.intro) hs he (dk_new hl hd (rel.put k rv) dd')
  · subst ey eH
    cases (show u = Value.ref b from ry)
    obtain ⟨z, hd, xs, rel, dd⟩ := dt_of I.hok e
    have hz : xs.length ≤ sizeLine := by rw [← Paired.length rel]; exact z
    have hl : (putK kvs k v).length ≤ sizeLine := by have := length_putK kvs k v; omega
    refine wpAny_dictSet_heap (hsz := hz) (show A.units < cLine by omega) (key_of I.hok eb) dd fun h' dd' hs => h _ ?_
    obtain ⟨q, es, ep, hq, h2, h3, h4, _, h5⟩ := dd'
    refine d_write I (by rw [e]; exact True.intro) hs ⟨q, hq⟩ ⟨hl, hd, _, (rel.put k eb rv).keeps fun c ys ec => ?_, q, es, ep, hq, h2, h3, h4, h5⟩
    rw [upd_ne (ne_of ec e (fun z => nomatch z))]
    exact ec
theorem dictSet_putC {A : Around} {E : Value → Shared → Prop} {D : Addr} {o' : HO} {u r : Value} {Q : Unit → Shared → Prop} (hu : A.units + 1 < cLine) (I : Inv X pins σ H s) (q : PutC H D y v o') (ry : RelV y u) (rv : RelV v r) (h : ∀ s', Inv X pins σ (upd H D o') s' → Q () s') :
    wpAny (model X.prog X.w) A (dictSet D u r) Q E s := by
  rcases q with q | ⟨hd, q⟩ | ⟨hd, q⟩
  · exact dictSet_put hu I q ry rv h
  · exact dictSet_put hu (empty_KT I hd) q ry rv h
  · exact dictSet_put hu (empty_TK I hd) q ry rv h
end
end Pv

set_option Elab.async false
set_option linter.all false
set_option maxRecDepth 100000
namespace Pv
open PySem L2 PySem.Spec PyProof.Rows
section
variable {X : Cx}
/-- {k: v for target in iter if ..}: any keys -/
def tDg (wi : TI) (g : TG) (tt : TT) (tk tv : TE) (vs : List Nat) : TE := fun σ H Q => wi σ H fun J H1 => ∀ D, H1 D = none → ∃ W : Nat → Nat → Hp → Prop, (∃ m, W 0 m (upd H1 D (.dK []))) ∧ ∀ i m H, W i m H →
  (J.stop i H ∧ Q (.ref D) H) ∨ (J.go i H ∧ ∃ Nx : Hp → Prop, (∀ H', Nx H' → ∃ m', m' < m ∧ W (i + 1) m' H') ∧ ∀ x H', J.yld i H x H' → g x (wipe σ vs) H' fun σ2 H2 => wipe σ2 vs = wipe σ vs ∧ tt σ2 H2 fun b H3 =>
    if b = true then tk σ2 H3 fun y H4 => tv σ2 H4 fun z H5 => ∃ o', PutC H5 D y z o' ∧ Nx (upd H5 D o') else Nx H3)
theorem pe_dg {kx vx tg iter : Expr} {ifs : List Expr} {scope : Scope} {own : List (Str × Nat)} {pos : Pos} {wi : TI} {g : TG} {tt : TT} {tk tv : TE} (hu : X.A.units + 1 < cLine) (hc : X.calm = true) (hN : X.N.Nodup) (hi : PI X tg iter wi) (ok : BlkOk X.N X.env.scope scope own)
    (hg : ∀ (s : Shared) (H : Hp) (C : Addr) (cl : List (Str × Addr)) (fp : List Addr), PG (X.blk s H scope (compEnvC scope cl C X.env) fp) tg g) (ht : ∀ (s : Shared) (H : Hp) (C : Addr) (cl : List (Str × Addr)) (fp : List Addr), PTs (X.blk s H scope (compEnvC scope cl C X.env) fp) ifs tt)
    (hk : ∀ (s : Shared) (H : Hp) (C : Addr) (cl : List (Str × Addr)) (fp : List Addr), PE (X.blk s H scope (compEnvC scope cl C X.env) fp) kx tk)
    (he : ∀ (s : Shared) (H : Hp) (C : Addr) (cl : List (Str × Addr)) (fp : List Addr), PE (X.blk s H scope (compEnvC scope cl C X.env) fp) vx tv) (hs : ∀ x, foldedSetIterable iter X.env x = pure x) :
    PE X (.DictComp kx vx [⟨tg, iter, ifs, 0⟩] scope pos) (tDg wi g tt tk tv (own.map (·.2))) := by
  refine ⟨fun pins s σ H Q I h => ?_⟩
  rw [arm_eval_DictComp]
  have hfree : ∀ y ∈ scope.names, y.2 = .free → ∃ c, X.env.cells.lookup y.1 = some c := fun y hy e => (ok.free y hy e).elim (fun k => I.ok.has _ (.inl k)) fun k => I.ok.has _ (.inr k)
  refine wpAny_comprehension_free (use := none) rfl hs (closure_ok hfree) ok.kind (fun y hy e => by rw [ok.uniq y hy, e]) (thn (hi.run pins s σ H _ I h) fun xv s1 hx => thn hx fun itv s2 h2 => ?_)
  obtain ⟨it, fp, tn, J, H2, e, I2, T, st2, f2, q⟩ := h2
  subst e
  refine wpAny_newObj_type (newEnv_comp ?_)
  -- the new dict, the block
  generalize hD : s2.heap.objs.size = D
  have hDn : H2 D = none := I2.hok.fresh (Nat.le_of_eq hD)
  obtain ⟨W, ⟨m0, w0⟩, turn⟩ := q D hDn
  generalize hs3 : ({ s2 with heap := s2.heap.push { cls := .type "dict", data := .dict #[] } } : Shared) = s3
  have h3 : s3.heap = s2.heap.push { cls := .type "dict", data := .dict #[] } := by rw [← hs3]
  have I3 : Inv X pins σ (upd H2 D (.dK [])) s3 := by
    rw [← hs3]
    refine I2.laid (t' := s2.toks) (fun b o e => Heap.get?_push_of_some _ e) (Nat.le_of_eq hD) ?_
    rw [← hD]
    exact dk_empty s2.heap I2.big
  have f3 : ∀ b ∈ fp, FpOk X pins (upd H2 D (.dK [])) b ∧ b < s3.heap.objs.size := fun b hb => by
    obtain ⟨o, e, _⟩ := T.obj _ _ st2 b hb
    have hlt := Heap.lt_size e
    have hne : b ≠ D := by rw [← hD]; exact Nat.ne_of_lt hlt
    exact ⟨⟨(upd_ne hne).trans (f2 b hb).1, (f2 b hb).2⟩, by rw [h3, Heap.size_push]; exact Nat.lt_succ_of_lt hlt⟩
  have st3 : tn 0 s3.heap := T.keep _ _ _ st2 fun b _ o e => by rw [h3]; exact Heap.get?_push_of_some _ e
  have I4 := block_start I3 ok hN f3
  generalize hH3 : upd H2 D (.dK []) = H3 at I3 I4 w0 f3
  have pg := hg s3 H3 s3.heap.objs.size (cellsFrom (s3.heap.objs.size + 1) scope.names (cloFrom X.env.cells scope.names [])) fp
  have pt := ht s3 H3 s3.heap.objs.size (cellsFrom (s3.heap.objs.size + 1) scope.names (cloFrom X.env.cells scope.names [])) fp
  have pk := hk s3 H3 s3.heap.objs.size (cellsFrom (s3.heap.objs.size + 1) scope.names (cloFrom X.env.cells scope.names [])) fp
  have pe := he s3 H3 s3.heap.objs.size (cellsFrom (s3.heap.objs.size + 1) scope.names (cloFrom X.env.cells scope.names [])) fp
  generalize hce : compEnvC scope (cellsFrom (s3.heap.objs.size + 1) scope.names (cloFrom X.env.cells scope.names [])) s3.heap.objs.size X.env = ce at I4 pg pt pk pe
  have cL : ce.locals = s3.heap.objs.size := by subst hce; rfl
  show codeAny _ _ (.compStart (.DictComp kx vx [⟨tg, iter, ifs, 0⟩] scope pos) 0 (.ref it) (.ref D) (compEnvC scope (cellsFrom (s3.heap.objs.size + 1) scope.names (cloFrom X.env.cells scope.names [])) s3.heap.objs.size X.env)) (compPost (model X.prog X.w) X.A X.xe none (EP X pins σ Q) (.ref D) s3.heap.objs.size) { s3 with heap := pushCells (s3.heap.push { cls := .type "dict", data := .dict #[] }) scope.names }
  rw [hce]
  generalize hs4 : ({ s3 with heap := pushCells (s3.heap.push { cls := .type "dict", data := .dict #[] }) scope.names } : Shared) = s4 at I4 ⊢
  have st4 : tn 0 s4.heap := T.keep _ _ _ st3 fun b _ o e => by rw [← hs4]; exact pushCells_keeps _ _ _ _ (Heap.get?_push_of_some _ e)
  have stat : ∀ {σ' : L2.St} {H' : Hp} {s' : Shared}, Inv (X.blk s3 H3 scope ce fp) [] σ' H' s' → (∀ b ∈ fp, H' b = none) → ∀ b ∈ fp, FpOk (X.blk s3 H3 scope ce fp) [] H' b := fun {σ' H' s'} I' hn b hb =>
    ⟨hn b hb, (I'.ok.exf b hb).1, I'.ok.exfs b hb, .inl hb, fun x c e => (I'.ok.exf b hb).2 x c e, fun p hp => absurd (show p ∈ ([] : List (Addr × Obj)) ++ [] from hp) (by simp)⟩
  have loop : codeAny (model X.prog X.w) X.A (.compLoop (.DictComp kx vx [⟨tg, iter, ifs, 0⟩] scope pos) 0 (.ref it) (.ref D) ce) (compPost (model X.prog X.w) X.A X.xe none (EP X pins σ Q) (.ref D) s3.heap.objs.size) s4 := by
    refine compLoop_anyD (fun n s' => ∃ i H', Inv (X.blk s3 H3 scope ce fp) [] (wipe σ (own.map (·.2))) H' s' ∧ tn i s'.heap ∧ (∀ b ∈ fp, H' b = none) ∧ W i n H') ?_ m0 ⟨0, H3, I4, st4, fun b hb => (f3 b hb).1.1, w0⟩
    rintro n s5 ⟨i, H5, I5, st5, n5, w5⟩
    rcases turn i n H5 w5 with ⟨stop, qq⟩ | ⟨go, Nx, hNx, step⟩
    · refine thnF (T.done (X.blk s3 H3 scope ce fp) rfl rfl rfl hc i [] s5 _ H5 (fun _ _ => False) I5 (stat I5 n5) st5 stop) fun r s6 ⟨hr, I6⟩ => ?_
      subst hr
      have I7 : Inv X pins σ H5 s6 := I3.call' (ch := fp) I6.os I6.base I6.hok I6.bare fun b hb => ⟨(f3 b hb).1.2.2.2.1, (f3 b hb).1.2.1, (f3 b hb).1.2.2.2.2.1, (f3 b hb).1.2.2.2.2.2⟩
      have nC : H5 s3.heap.objs.size = none := by
        have z : H5 ce.locals = none := I6.free
        rw [cL] at z
        exact z
      obtain ⟨m, hn, _⟩ := I6.loc
      have hn : s6.heap.Ns ce.locals m := hn
      rw [cL] at hn
      obtain ⟨p0, p1, p2, p3, p4, p5⟩ := I3.fpOk (H' := H5) (Nat.le_refl _) nC
      exact ⟨m, hn, fun h'' sb => ⟨.ref D, H5, I7.turned (t' := s6.toks) (fun b o hb e => (sb.2 b hb).trans e) p0 p1 p3 p4 p5, rfl, qq⟩⟩
    · refine thnF (T.item (X.blk s3 H3 scope ce fp) rfl rfl rfl hc i [] s5 _ H5 (fun _ _ => False) I5 (stat I5 n5) st5 go) fun r s6 ⟨u, hr, h6⟩ => ?_
      subst hr
      refine thnF h6 fun _ s7 ⟨x, H7, I7, r7, y7, st7, n7⟩ => ?_
      have I7' := I7.pinned (stat I7 n7) (T.obj _ _ st7)
      refine thnF (pg.run _ s7 _ H7 x u _ I7' r7 (step x H7 y7)) fun _ s8 ⟨σ8, H8, I8, hw8, q8⟩ => ?_
      refine thnF (pt.run _ s8 σ8 H8 _ I8 q8) fun b s9 ⟨H9, I9, q9⟩ => ?_
      have fin : ∀ {s' : Shared} {H' : Hp}, Inv (X.blk s3 H3 scope ce fp) ([] ++ pinsAt fp s7.heap) σ8 H' s' → Nx H' → ∃ m, m < n ∧ ∃ i H', Inv (X.blk s3 H3 scope ce fp) [] (wipe σ (own.map (·.2))) H' s' ∧ tn i s'.heap ∧ (∀ b ∈ fp, H' b = none) ∧ W i m H' := fun {s' H'} I' nx => by
        obtain ⟨m', hm, w'⟩ := hNx H' nx
        have pin' : ∀ b ∈ fp, ∀ o, s7.heap.get? b = some o → s'.heap.get? b = some o ∧ H' b = none := fun b hb o e =>
          let z := I'.pin (b, o) (List.mem_append_right _ (List.mem_append_right _ (mem_pinsAt hb e)))
          ⟨z.1, z.2.1⟩
        refine ⟨m', hm, i + 1, H', (I'.unpinned (pins := [])).weak (by rw [← hw8, wipe_length]) (fun j v e => ?_), T.keep _ _ _ st7 fun b hb o e => (pin' b hb o e).1, fun b hb => ?_, w'⟩
        · rw [← hw8] at e
          exact (wipe_some e).1
        · obtain ⟨o, e, _⟩ := T.obj _ _ st7 b hb
          exact (pin' b hb o e).2
      cases b with
      | false =>
        simp only [Bool.false_eq_true, if_false] at q9 ⊢
        exact fin I9 q9
      | true =>
        simp only [if_true] at q9 ⊢
        refine thnF (pk.run _ s9 σ8 H9 _ I9 q9) fun z s10 ⟨yk, H10, I10, r10, q10⟩ => ?_
        refine thnF (pe.run _ s10 σ8 H10 _ I10 q10) fun z2 s11 ⟨yv, H11, I11, r11, o', hp, nx⟩ => ?_
        exact dictSet_putC (X := X.blk s3 H3 scope ce fp) (A := X.A) hu I11 hp r10 r11 fun s12 I12 => fin I12 nx
  exact codeAny_compStart_dict loop (T.self X.A 0 _ _ _ st4 loop)
end
section
variable {Z : Pm} {C : Cl} {X : Cx} {g g0 g1 : Gh} {H H0 H1 : Hp} {s s0 s1 : St} {σ σ1 : L2.St} {v : V} {d : D} {K : PySem.W.Frag}
theorem dc_keys {ks vs : List D} {k w : D} : (putD ks vs k w).1.length ≤ ks.length + 1 := by
  unfold putD
  split
  · exact Nat.le_succ _
  · simp
theorem e_dc {kx vx tg iter : Expr} {ifs : List Expr} {scope : Scope} {own : List (Str × Nat)} {pos : Pos} {t : T} {it : It} {c : Oe} {ek e : E} (hK : X.K = Z.K) (hu : X.A.units + 1 < cLine) (hc : X.calm = true) (hN : X.N.Nodup) (hi : PI X tg iter (tIt Z C it)) (ok : BlkOk X.N X.env.scope scope own)
    (hg : ∀ (s : Shared) (H : Hp) (C' : Addr) (cl : List (Str × Addr)) (fp : List Addr), PG (X.blk s H scope (compEnvC scope cl C' X.env) fp) tg (gD Z.nx C t)) (ht : ∀ (s : Shared) (H : Hp) (C' : Addr) (cl : List (Str × Addr)) (fp : List Addr), PTs (X.blk s H scope (compEnvC scope cl C' X.env) fp) ifs (tTo Z.nx C c))
    (hk : ∀ (s : Shared) (H : Hp) (C' : Addr) (cl : List (Str × Addr)) (fp : List Addr), PE (X.blk s H scope (compEnvC scope cl C' X.env) fp) kx (tE Z.nx C ek))
    (he : ∀ (s : Shared) (H : Hp) (C' : Addr) (cl : List (Str × Addr)) (fp : List Addr), PE (X.blk s H scope (compEnvC scope cl C' X.env) fp) vx (tE Z.nx C e)) (hs : ∀ x, foldedSetIterable iter X.env x = pure x) (hsub : ∀ j ∈ tsl t, j ∈ own.map (·.2)) :
    PE X (.DictComp kx vx [⟨tg, iter, ifs, 0⟩] scope pos) (tE Z C (.dc t it c ek e (own.map (·.2)))) := by
  refine PE.im (pe_dg hu hc hN hi ok hg ht hk he hs) ?_
  generalize own.map (·.2) = ow at hsub
  rintro σ H Q ⟨g, s, m, h⟩
  simp only [ev] at h
  refine ⟨g, s, m, ?_⟩
  cases q : evIt C it s with
  | no => rw [q] at h; exact h.elim
  | ex x s' => rw [q] at h; exact h
  | ok x s1 =>
    rw [q] at h
    simp only [Pv.R.bind_ok] at h
    intro g1 H1 J t1 m1 wk L hD
    have sl1 : s1.sl = s.sl := (evIt_fx it q).1.sl
    generalize hF : (fun (d : D) (s : St) => (asD C t d { s with sl := wipes s1.sl ow }).bind fun _ s => (evTo C c s).bind fun b s => if b then (ev C ek s).bind fun p s => (ev C e s).bind fun q s => (keep q s).bind fun z s => R.of ((deref s p).map fun y => some (y, z)) s else .ok none s) = F at h
    cases ql : noEx (dcLoop F x.1 ([], []) s1) with
    | no => rw [ql] at h; exact h.elim
    | ex y s' => exact (noEx_nex ql).elim
    | ok kv s2 =>
      rw [ql] at h
      simp only [Pv.R.bind_ok] at h
      have el0 := noEx_inv ql
      have mw := m1.wipe ow
      have wr : ∀ (gi : Gh) (Hi : Hp) (ce : List Cel) (ob : List Ob), Stp g1 H1 gi Hi → SimC gi ce ob Hi → ∀ si : St, si.ce = ce → si.ob = ob → Sim Z.K gi { si with sl := wipes s1.sl ow } (wipe σ ow) Hi := fun gi Hi ce ob ti ci si e1 e2 => by
        have := Sim.of0 mw ti ci
        rw [← e1, ← e2] at this
        exact this
      let W : Nat → Nat → Hp → Prop := fun i k H' => k = x.1.length - i ∧ i ≤ x.1.length ∧ ∃ (gi : Gh) (si : St) (o : HO) (acc : List D × List D), Stp g1 H1 gi H' ∧ SimC gi si.ce si.ob H' ∧ H' L = some o ∧ Mut (some o) ∧ RepO gi.ρ gi.F o (.dct acc.1 acc.2) ∧
        (gi.F L = none ∧ L ∉ gi.cp ∧ L ∉ gi.ρ) ∧ Hl s1 si ∧ dcLoop F (x.1.drop i) acc si = .ok kv s2
      refine ⟨W, ⟨x.1.length, ?_⟩, ?_⟩
      · have n1 : g1.F L = none := by
          cases qq : g1.F L with
          | none => rfl
          | some u => rw [m1.c.ex _ _ qq] at hD; cases hD
        have n2 : L ∉ g1.cp := fun z => by
          obtain ⟨u, eu⟩ := m1.wf.cp L z
          rw [hD] at eu; cases eu
        have n3 : L ∉ g1.ρ := fun z => by
          obtain ⟨u, eu⟩ := m1.wf.ρ L z
          rw [hD] at eu; cases eu
        exact ⟨rfl, Nat.zero_le _, g1, s1, .dK [], ([], []), (Stp.refl g1 H1).updD hD, m1.c.updD n1 n2, upd_same, trivial, .dK (kvs := []) .nil, ⟨n1, n2, n3⟩, .refl _, el0⟩
      · rintro i k H' ⟨rfl, hi', gi, si, o, acc, ti, ci, hDi, mui, ri, ⟨fD1, fD2, fD3⟩, hl, el⟩
        have mi := wr gi H' si.ce si.ob ti ci si rfl rfl
        have wki := wk gi _ _ H' ti mi (hl.trans (.of_ce rfl)) i
        by_cases hlt : i < x.1.length
        · refine .inr ?_
          have hx : x.1[i]? = some x.1[i] := List.getElem?_eq_getElem hlt
          obtain ⟨go, yld⟩ := wki.1 _ hx
          refine ⟨go, W (i + 1) (x.1.length - (i + 1)), fun H2 w => ⟨_, by omega, w⟩, fun x0 H2 hy => ?_⟩
          obtain ⟨g2, t2, r2⟩ := yld x0 H2 hy
          rw [drop_get hx] at el
          obtain ⟨ob, sd, ef, el2⟩ := R.inv el
          subst hF
          obtain ⟨_, sa, k1, ef⟩ := R.inv ef
          obtain ⟨b, sb, k2, ef⟩ := R.inv ef
          have hl1 : Hl s1 sb := (((hl.trans (Hl.of_ce (s := si) (s' := ⟨wipes s1.sl ow, si.ce, si.ob⟩) rfl)).trans (asD_hl t k1)).trans (evTo_fx c k2).h)
          refine ⟨g2, { si with sl := wipes s1.sl ow }, x.1[i], mi.gro t2, r2, ?_⟩
          rw [k1]
          intro g3 σ3 H3 t3 m3 off
          refine ⟨wipe_off off hsub, g3, sa, m3, ?_⟩
          rw [k2]
          intro g4 H4 b' t4 m4 eb
          have eb : b' = b := eb
          subst eb
          have T4 := (t2.stp.trans t3).trans t4
          obtain ⟨d1, d2, d3, d4⟩ := T4.keepF hDi fD1 fD2 fD3
          cases b' with
          | false =>
            rw [if_neg Bool.false_ne_true] at ef ⊢
            cases ef
            exact ⟨rfl, hlt, g4, _, o, acc, ti.trans T4, m4.c, d1, mui, ri.mono T4.ρ T4.F, ⟨d2, d3, d4⟩, hl1, el2⟩
          | true =>
            rw [if_pos rfl] at ef ⊢
            obtain ⟨p, sc, k3, ef⟩ := R.inv ef
            obtain ⟨q', sc2, k4, ef⟩ := R.inv ef
            obtain ⟨zd, sd', k5, ef⟩ := R.inv ef
            obtain ⟨e5, e6⟩ := R.of_inv ef
            obtain ⟨yd, e7, rfl⟩ := Option.map_eq_some_iff.mp e5
            subst e6
            simp only at el2
            split at el2
            · rename_i hko
              obtain ⟨ko, hlm⟩ := Bool.and_eq_true_iff.mp hko
              refine ⟨g4, sb, m4, ?_⟩
              rw [k3]
              intro g5 H5 yv t5 m5 rl5
              refine ⟨g5, sc, m5, ?_⟩
              rw [k4]
              intro g6 H6 zv t6 m6 rl6
              obtain ⟨g7, t7, m7, r7, f7⟩ := keep_ok m5 t6 m6 (ev_fx e k4).sl rl6.1 rl6.2.1 k5
              have T7 := (T4.trans t5).trans t7
              obtain ⟨c1, c2, c3, c4⟩ := T7.keepF hDi fD1 fD2 fD3
              -- the key, at the end
              have oy : OpR' Z.K g7 H6 yv p := by
                have o5 := rl5.1
                exact o5.mono t7
              have py := OpR'.pk m7 oy e7
              obtain ⟨o', pc, mu', ro'⟩ := with_putC (X := X) (by exact m7.wf) c1 (ri.mono T7.ρ T7.F) (by rw [hK]; exact py) ko (of_decide_eq_true hlm) r7
              refine ⟨o', pc, rfl, hlt, g7, _, o', _, (ti.trans T7).updD hD, m7.c.updD c2 c3, upd_same, mu', ro', ⟨c2, c3, c4⟩, (((hl1.trans (ev_fx ek k3).h).trans (ev_fx e k4).h).trans (keep_fx k5).h), el2⟩
            · cases el2
        · refine .inl ⟨wki.2 (by omega), ?_⟩
          have ei : i = x.1.length := by omega
          subst ei
          rw [List.drop_length] at el
          cases el
          have mf : Sim Z.K gi ⟨s1.sl, s2.ce, s2.ob⟩ σ H' := Sim.of0 m1 ti ci
          exact h gi H' (.ref L) (t1.trans ti) (letGos_ok _ mf) ⟨.fr rfl hDi mui ri fD1 fD2 fD3, fri (none_back t1 hD), trivial⟩
end
end Pv

set_option Elab.async false
set_option linter.all false
set_option maxRecDepth 100000
namespace PySem
set_option maxHeartbeats 1000000 in
theorem meets_enum1 {v : Value} {o : Obj} {H : Heap → Prop} (B : Begins v o H) :
    Meets (Builtin.«enumerate.__new__» ⟨[.type "enumerate", v], []⟩) (fun _ R s => H s.heap ∧
      R (.ok (.ret (.ref (s.heap.push o).objs.size))) { s with heap := (s.heap.push o).push { cls := .type "enumerate", data := .fields #[.none, .bool false, .ref s.heap.objs.size, rawInt 0, .none, .none] } }) :=
  .of_wp fun prog w A R s h => by
    obtain ⟨hp, g, d, tk, os⟩ := s; obtain ⟨h1, h⟩ := h
    have hsub := sub_enumerate
    have q1 : ∀ {A' : Around} {E : Value → Shared → Prop} {Q : Value → Shared → Prop}, Q (.ref hp.objs.size) ⟨hp.push o, g, d, tk, os⟩ → wpAny (model prog w) A' (pyIter v) Q E ⟨hp, g, d, tk, os⟩ :=
      fun q => B.iter prog w _ _ ⟨hp, g, d, tk, os⟩ _ h1 q
    wp_walk using q1
    refine wpAny_stack_any fun st => wpAny_pure ?_
    split
    · rename_i c _ _ _ _ _
      cases (c == Value.type "enumerate")
      · wp_walk using q1
        exact ⟨_, rfl, h⟩
      · wp_walk using q1
        exact ⟨_, rfl, h⟩
    · wp_walk using q1
      exact ⟨_, rfl, h⟩
section
variable {prog : Program} {w : World} {A : Around} {E : Value → Shared → Prop} {s : Shared}
theorem enum1_begins {v : Value} {o : Obj} {H : Heap → Prop} {Q : Value → Shared → Prop} (B : Begins v o H) (h1 : H s.heap)
    (h : ∀ h', IsEnum h' (s.heap.objs.size + 1) s.heap.objs.size 0 .none → h'.get? s.heap.objs.size = some o → h'.objs.size = s.heap.objs.size + 2 →
      (∀ b o, s.heap.get? b = some o → h'.get? b = some o) → Q (.ref (s.heap.objs.size + 1)) { s with heap := h' }) :
    wpAny (model prog w) A (call (.type "enumerate") [v]) Q E s := by
  refine callType_new F.called_enumerate (by decide) (F.typeCall_enumerate_1 _) (F.newCall_enumerate_1 _) (fun obj => F.args_object_init_2 obj _) F.entry_enumerate_new (meets_enum1 B) ⟨h1, ?_⟩
  have hz : (s.heap.push o).objs.size = s.heap.objs.size + 1 := Heap.size_push ..
  show _ ∧ _
  rw [hz]
  have he : IsEnum ((s.heap.push o).push { cls := .type "enumerate", data := .fields #[.none, .bool false, .ref s.heap.objs.size, rawInt 0, .none, .none] }) (s.heap.objs.size + 1) s.heap.objs.size 0 .none := by
    have := Heap.get?_push_size (s.heap.push o) (o := { cls := .type "enumerate", data := .fields #[.none, .bool false, .ref s.heap.objs.size, rawInt 0, .none, .none] }) rfl
    rw [hz] at this; exact this
  exact ⟨⟨_, he, rfl⟩, h _ he (Heap.get?_push_of_some _ (Heap.get?_push_size _ B.free)) (by rw [Heap.size_push, hz]) fun b o x => Heap.get?_push_of_some _ (Heap.get?_push_of_some _ x)⟩
end
end PySem
namespace Pv
open PySem L2 PySem.Spec PyProof.Rows
/-- enumerate of a tuple: each item in a new pair -/
def IteT (K : PySem.W.Frag) (a : Addr) : L2.It :=
  ⟨fun i H => ∃ (xs : List V) (x : V), SqT K H a xs ∧ xs[i]? = some x, fun i H v H' => ∃ T x, v = .ref T ∧ H T = none ∧ H' = upd H T (.tup [.int (i : Nat), x]) ∧ ∀ xs, SqT K H a xs → xs[i]? = some x, fun i H => ∃ xs : List V, SqT K H a xs ∧ xs.length ≤ i⟩
theorem turn_enumT {P : Program} {w : World} {K : PySem.W.Frag} {elts : List Expr} {kk : Nat} {tpos : Pos} (a e it : Addr) (hae : a ≠ e) (hai : a ≠ it) :
    Turn P w K (.Tuple elts kk tpos) (IteT K a) [e, it] e (fun i h => (∃ old, IsEnum h e it ((i : Nat) : Int) old) ∧ h.IsTupleIter it a i ∧ e ≠ it) where
  mem := by simp
  obj := fun i h st b hb => by
    obtain ⟨⟨old, he⟩, ⟨o, ho, hc, hd⟩, _⟩ := st
    have e' : b = e ∨ b = it := by simpa using hb
    rcases e' with z | z
    · rw [z]; exact ⟨_, he, fun v q => nomatch q⟩
    · rw [z]; exact ⟨o, ho, fun v q => by rw [hd] at q; cases q⟩
  keep := fun i h h' st k => let ⟨⟨old, he⟩, hi, hne⟩ := st; ⟨⟨old, k e (by simp) _ he⟩, hi.at fun o q => k it (by simp) o q, hne⟩
  item := by
    intro X hP hw hK hc i pins s σ H E I hf st hg
    subst hP hw hK
    obtain ⟨⟨old, he⟩, hit, hne⟩ := st
    obtain ⟨xs, x, hq, hx⟩ := hg
    obtain ⟨its, rv, p, hz⟩ := I.tuple hq
    obtain ⟨u, hu, ru⟩ := rv.get hx
    have hel : e < s.heap.objs.size := Heap.lt_size he
    have hil : it < s.heap.objs.size := by obtain ⟨_, q, _⟩ := hit; exact Heap.lt_size q
    have hT : s.heap.IsTuple a its.toArray := p
    have hlt : i < its.toArray.size := by
      have := (List.getElem?_eq_some_iff.mp hu).1
      simpa using this
    have D := Draws.tuple (prog := X.prog) (w := X.w) (A := X.A.in1) (by show X.A.handled = none; exact I.ok.hd hc) it a hai its.toArray
    refine wpAny_pyNext_enum_itemD D he ⟨hit, hT⟩ hlt hne (by simp [hne, Ne.symm hae]) fun y h' tk hy ho st' hT' hsz hk => ?_
    have ey : y = u := by
      have hy : its.toArray[i]? = some y := hy
      have : its[i]? = some y := by simpa using hy
      rw [hu] at this
      exact (Option.some.inj this).symm
    subst ey
    refine ⟨_, rfl, wpAny_letOwnedTupleGo_enum (s := { s with heap := h', toks := tk + 1 }) ho fun h'' he' sb => ?_⟩
    have hT2 : h''.get? s.heap.objs.size = some { cls := .type "tuple", data := .seq #[.int i tk, y] } := (sb.2 _ (Nat.ne_of_gt hel)).trans hT'
    have new : ObjOk X.prog X.w (upd H s.heap.objs.size (.tup [.int (i : Nat), x])) h'' s.heap.objs.size (.tup [.int (i : Nat), x]) :=
      ⟨by show 2 ≤ sizeLine; decide, [.int i tk, y], .cons ⟨_, rfl⟩ (.cons ru .nil), ⟨_, hT2, rfl, _, rfl⟩⟩
    have I1 : Inv X pins σ (upd H s.heap.objs.size (.tup [.int (i : Nat), x])) { s with heap := h'', toks := tk + 1 } :=
      I.turnedNew (ch := [e, it]) (fun b ob hb q => (sb.2 b (fun z => hb (by simp [z]))).trans (hk b ob (fun z => hb (by simp [z])) (fun z => hb (by simp [z])) q)) hf (Nat.le_refl _) new
    refine ⟨.ref s.heap.objs.size, _, I1, rfl, ⟨_, x, rfl, I.hok.fresh (Nat.le_refl _), rfl, fun ys hy => by rw [I.tuple_inj hy hq]; exact hx⟩, ⟨⟨y, ?_⟩, st'.1.at fun o q => (sb.2 it (Ne.symm hne)).trans q, hne⟩, fun b hb => ?_⟩
    · have e1 : ((i + 1 : Nat) : Int) = (i : Int) + 1 := by omega
      rw [e1]; exact he'
    · have hb' : b < s.heap.objs.size := by
        have e' : b = e ∨ b = it := by simpa using hb
        rcases e' with z | z
        · rw [z]; exact hel
        · rw [z]; exact hil
      rw [upd_ne (Nat.ne_of_lt hb')]
      exact (hf b hb).1
  done := by
    intro X hP hw hK hc i pins s σ H E I hf st hg
    subst hP hw hK
    obtain ⟨⟨old, he⟩, hit, hne⟩ := st
    obtain ⟨xs, hq, hx⟩ := hg
    obtain ⟨its, rv, p, hz⟩ := I.tuple hq
    obtain ⟨f0, f1, f2, f3, f4, f5⟩ := hf it (by simp)
    have hl := rv.length
    have hT : s.heap.IsTuple a its.toArray := p
    -- the end, whatever the index beyond
    have D := Draws.tuple (prog := X.prog) (w := X.w) (A := X.A.in1) (by show X.A.handled = none; exact I.ok.hd hc) it a hai its.toArray
    have DE : Draws X.prog X.w X.A.in1 it [it, a] i (fun _ _ => False) (fun j h => j = i ∧ h.IsTupleIter it a i ∧ h.IsTuple a its.toArray) :=
      ⟨fun _ _ st => let ⟨_, ⟨o, ho, _⟩, _⟩ := st; ⟨o, ho⟩, fun _ _ _ st hk => ⟨st.1, st.2.1.at fun o e => hk it (by simp) o e, st.2.2.at fun o e => hk a (by simp) o e⟩,
        fun j s Q E hj st _ => absurd st.1 (Nat.ne_of_lt hj), fun s Q E st hE => wpAny_nextOf_tuple_end (by show X.A.handled = none; exact I.ok.hd hc) st.2.1 st.2.2 (by simp; omega) hE⟩
    exact wpAny_pyNext_enum_endD DE he ⟨rfl, hit, hT⟩ fun h' eb => ⟨rfl, I.turned (t' := s.toks) (fun b o hb q => eb b o hb q) f0 f1 f3 f4 f5⟩
  self := fun A i s Q E st h => let ⟨⟨_, he⟩, _⟩ := st; wpAny_pyIter_enum he h
def iEnumT (K : PySem.W.Frag) (ta : TA) : TI := fun σ H R => ta σ H fun vs H1 => ∃ a xs, vs = [.ref a] ∧ SqT K H1 a xs ∧ R (IteT K a) H1
theorem pi_enumT {X : Cx} {e : Expr} {ta : TA} {p pos tpos : Pos} {elts : List Expr} {kk : Nat} (hg : Gl X "enumerate") (hm : X.mg "enumerate" = none) (ha : PA X [e] ta) (hs : starEach [e] X.env = [(false, eval e X.env)]) :
    PI X (.Tuple elts kk tpos) (.Call (.Name "enumerate" p) [e] [] pos) (iEnumT X.K ta) := by
  refine ⟨fun pins s σ H R I h => ?_⟩
  refine Call_ (ld_blt I hg hm boot_enumerate (PyProof.Rows.callWith_type1 (thn (ha.run pos pins s σ H _ I h) fun us s1 ⟨vs, H1, I1, r1, q1⟩ => ?_) hs rfl))
  obtain ⟨a, xs, ex, hq, q⟩ := q1
  subst ex
  cases r1 with
  | cons r rr =>
    cases rr
    cases r
    obtain ⟨its, rv, p', hz⟩ := I1.tuple hq
    have hT : s1.heap.IsTuple a its.toArray := p'
    have hlt : a < s1.heap.objs.size := by obtain ⟨o, e, _⟩ := hT; exact Heap.lt_size e
    refine enum1_begins (begins_tuple a its.toArray) hT fun h' he hit hsz hk => wpAny_pyIter_enum he ?_
    have I2 : Inv X pins σ H1 { s1 with heap := h' } := I1.kept (t' := s1.toks) hk
    refine ⟨s1.heap.objs.size + 1, [s1.heap.objs.size + 1, s1.heap.objs.size], _, _, H1, rfl, I2, turn_enumT a (s1.heap.objs.size + 1) s1.heap.objs.size (Nat.ne_of_lt (Nat.lt_succ_of_lt hlt)) (Nat.ne_of_lt hlt), ⟨⟨.none, he⟩, ⟨_, hit, rfl, rfl⟩, Nat.succ_ne_self _⟩, fun b hb => ?_, q⟩
    have e' : b = s1.heap.objs.size + 1 ∨ b = s1.heap.objs.size := by simpa using hb
    have hle : s1.heap.objs.size ≤ b := by
      rcases e' with z | z
      · rw [z]; exact Nat.le_add_right _ _
      · rw [z]; exact Nat.le_refl _
    exact I1.fpOk hle (I1.hok.fresh hle)
section
variable {Z : Pm} {C : Cl} {X : Cx} {a b c : Expr} {ea eb ec : E} {pos : Pos} {es : List Expr} {ees : Es} {g g0 g1 : Gh} {H H0 H1 : Hp} {s s0 s1 : St} {σ σ1 : L2.St} {v : V} {d : D} {l l' : List Nat} {K : PySem.W.Frag}
theorem i_enum {tg iter : Expr} (hK : X.K = Z.K) (hi : PI X tg iter (iEnum X.K (tCons (tE Z C ea) tNil))) (hi2 : PI X tg iter (iEnumT X.K (tCons (tE Z C ea) tNil))) : PI X tg iter (tIt Z C (.enum ea)) := by
  refine PI.im (PI.or hi hi2) ?_
  rintro σ H R ⟨g, s, m, h⟩
  simp only [evIt] at h
  cases q : ev C ea s with
  | no => rw [q] at h; exact h.elim
  | ex x s' => rw [q] at h; exact .inl ⟨g, s, m, by rw [q]; exact h⟩
  | ok p s1 =>
    rw [q] at h
    simp only [Pv.R.bind_ok] at h
    cases hd : deref s1 p with
    | none => rw [hd] at h; exact h.elim
    | some d =>
      rw [hd] at h
      cases hi : itD d with
      | none => simp only [Option.bind_some, hi] at h; exact h.elim
      | some ds =>
        simp only [Option.bind_some, hi, Pv.R.of_some, Pv.R.bind_ok] at h
        rcases itD_inv hi with il | rfl
        · refine .inl ⟨g, s, m, ?_⟩
          rw [q]
          intro g1 H1 v t1 m1 rl1
          obtain ⟨b, vs, ev, hb, r⟩ := (OpR'.pk m1 rl1.1 hd).sql m1.wf il
          obtain ⟨m2, hk⟩ := hold_ok m1 rl1.1 hd
          refine ⟨b, vs, by rw [ev], by rw [hK]; exact hb, h g1 H1 _ t1 m2 fun g2 s2 σ2 H2 t2 m3 hl i => ?_⟩
          obtain ⟨b', vs', ev', hb', r'⟩ := (hk g2 s2 σ2 H2 t2 m3 hl).sql m3.wf il
          rw [ev] at ev'
          cases ev'
          rw [hK]
          refine ⟨fun d hd => ?_, fun hle => ⟨vs', hb', by rw [r'.length]; rw [enumD_len] at hle; exact hle⟩⟩
          obtain ⟨e, he, rfl⟩ := enumD_get _ _ _ _ hd
          obtain ⟨x, hx, rx⟩ := r'.get he
          refine ⟨⟨vs', x, hb', hx⟩, fun x' H' y => ?_⟩
          obtain ⟨T, x2, rfl, hT, rfl, e2⟩ := y
          have := e2 vs' hb'
          rw [hx] at this
          cases this
          have e0 : 0 + i = i := Nat.zero_add i
          rw [e0]
          exact ⟨_, gro_tup m3.wf hT, rep_tup m3.wf hT (.cons (.int _) (.cons rx .nil))⟩
        · refine .inr ⟨g, s, m, ?_⟩
          rw [q]
          intro g1 H1 v t1 m1 rl1
          obtain ⟨b, vs, ev, hb, r⟩ := (OpR'.pk m1 rl1.1 hd).tup m1.wf
          obtain ⟨m2, hk⟩ := hold_ok m1 rl1.1 hd
          refine ⟨b, vs, by rw [ev], by rw [hK]; exact hb, h g1 H1 _ t1 m2 fun g2 s2 σ2 H2 t2 m3 hl i => ?_⟩
          obtain ⟨b', vs', ev', hb', r'⟩ := (hk g2 s2 σ2 H2 t2 m3 hl).tup m3.wf
          rw [ev] at ev'
          cases ev'
          rw [hK]
          refine ⟨fun d hd => ?_, fun hle => ⟨vs', hb', by rw [r'.length]; rw [enumD_len] at hle; exact hle⟩⟩
          obtain ⟨e, he, rfl⟩ := enumD_get _ _ _ _ hd
          obtain ⟨x, hx, rx⟩ := r'.get he
          refine ⟨⟨vs', x, hb', hx⟩, fun x' H' y => ?_⟩
          obtain ⟨T, x2, rfl, hT, rfl, e2⟩ := y
          have := e2 vs' hb'
          rw [hx] at this
          cases this
          have e0 : 0 + i = i := Nat.zero_add i
          rw [e0]
          exact ⟨_, gro_tup m3.wf hT, rep_tup m3.wf hT (.cons (.int _) (.cons rx .nil))⟩
end
end Pv

set_option Elab.async false
set_option linter.all false
set_option maxRecDepth 100000
/-! the check that a text of Pv says what an expression, a statement of the program says -/
namespace Pv
open PySem

structure Ga where
  N : List Str
  gn : Nat → Option Str
  fn : Nat → Option (Str × Nat)
structure Ct where
  sc : Scope
  fn : Str → Bool
def visB (sc : Scope) (x : Str) : Bool := match sc.names.lookup x with
  | some .local => true
  | some .cell => true
  | some .free => true
  | _ => false
def locB (ct : Ct) (x : Str) : Bool := match ct.sc.names.lookup x with
  | some .local => true
  | some .cell => ct.fn x
  | _ => false
def isLoc (ct : Ct) (x : Str) : Bool := match ct.sc.names.lookup x with
  | some .local => true
  | _ => false
def glB (sc : Scope) (x : Str) : Bool := match sc.names.lookup x with
  | some .globalImplicit => true
  | _ => false
def okN (x : Str) : Bool := !(x == ("__debug__" : Str)) && !(x == ("__classdict__" : Str))
def litB : D → Const → Bool
  | .int i, .int j => decide (i = j)
  | .str i, .str j => decide (i = j)
  | .bl i, .bool j => decide (i = j)
  | .non, .none => true
  | _, _ => false
def tyNm : String → Option Str
  | "int" => some "int"
  | "bool" => some "bool"
  | "tuple" => some "tuple"
  | "str" => some "str"
  | "list" => some "list"
  | _ => none
def tyB : D → Str → Bool
  | .ty n, y => decide (tyNm n = some y)
  | _, _ => false
def biNm : Bi → Str
  | .len => "len"
  | .all => "all"
  | .any => "any"
  | .sum => "sum"
  | .sorted => "sorted"
  | .tuple => "tuple"
  | .list => "list"
  | .max => "max"
  | .min => "min"
  | .abs => "abs"
  | .int => "int"
  | .divmod => "divmod"
  | .isi => "isinstance"
  | .repr => "repr"
  | .str => "str"
  | .bool => "bool"
  | .sset => "set"
def btNs : List Str := ["len", "all", "any", "sum", "sorted", "tuple", "list", "max", "min", "abs", "int", "divmod", "isinstance", "repr", "str", "bool", "set", "range", "enumerate", "zip"]
def mtNm : Mt → Str
  | .append => "append"
  | .extend => "extend"
  | .bitlen => "bit_length"
  | .pop => "pop"
  | .remove => "remove"
  | .index => "index"
  | .count => "count"
def mtB : Mt → Nat → Bool
  | .append, 1 => true
  | .extend, 1 => true
  | .bitlen, 0 => true
  | _, _ => false
def noStar : Expr → Bool
  | .Starred _ _ => false
  | _ => true
def noSet : Expr → Bool
  | .Set _ _ _ => false
  | _ => true
def noSl : Expr → Bool
  | .Slice _ _ _ _ => false
  | _ => true
def noComp : Expr → Bool
  | .ListComp _ _ _ _ => false
  | .SetComp _ _ _ _ => false
  | .DictComp _ _ _ _ _ => false
  | _ => true
def noDisp : Expr → Bool
  | .Tuple _ _ _ => false
  | .List _ _ => false
  | _ => true
/-- the receiver of a method is no call -/
def noCall : Expr → Bool
  | .Call _ _ _ _ => false
  | _ => true
def namesT : T → Bool
  | .nm _ => true
  | .sub _ _ => false
  | .tup _ => false
def simE : E → Bool
  | .loc _ => true
  | .lit _ => true
  | .gl _ => true
  | _ => false
def tsLen : Ts → Nat
  | .nil => 0
  | .cons _ r => tsLen r + 1
mutual
/-- storing there raises nothing -/
def quietT : T → Bool
  | .nm _ => true
  | .sub o i => simE o && simE i
  | .tup ts => quietTs ts
def quietTs : Ts → Bool
  | .nil => true
  | .cons t r => quietT t && quietTs r
end
/-- the names of a comprehension's block -/
def blkB (N : List Str) (sc scope : Scope) (own : List Nat) : Bool :=
  decide (scope.kind = .function) &&
  scope.names.all (fun y => decide (scope.names.lookup y.1 = some y.2)) &&
  own.all (fun j => (N[j]?).isSome) &&
  scope.names.all (fun y => match y.2 with
    | .free => (match sc.names.lookup y.1 with | some .cell => true | some .free => true | _ => false)
    | .local => own.any (fun j => decide (N[j]? = some y.1)) || !(N.contains y.1)
    | .cell => own.any (fun j => decide (N[j]? = some y.1)) || !(N.contains y.1)
    | _ => true)
def relC (scope sc : Scope) : Scope :=
  { scope with names := scope.names.map fun (n, k) => if (k == .free && sc.kind == .function && sc.names.lookup n == some .cell) then (n, .cell) else (n, k) }
def ctIn (ct : Ct) (scope : Scope) : Ct := ⟨relC scope ct.sc, fun x => scope.names.lookup x == some .cell⟩

mutual
def chk (Γ : Ga) : E → Ct → Expr → Bool
  | .lit d, ct, x => match x with
    | .Constant c _ _ => litB d c
    | .Name y _ => glB ct.sc y && okN y && tyB d y
    | _ => false
  | .loc i, ct, x => match x with
    | .Name y _ => decide (Γ.N[i]? = some y) && visB ct.sc y && okN y
    | _ => false
  | .gl n, ct, x => match x with
    | .Name y _ => decide (Γ.gn n = some y) && glB ct.sc y && okN y
    | _ => false
  | .bin o a b, ct, x => match x with
    | .BinOp l p r _ => decide (p = o) && chk Γ a ct l && chk Γ b ct r
    | _ => false
  | .neg a, ct, x => match x with
    | .UnaryOp .USub l _ => chk Γ a ct l
    | _ => false
  | .cmp o a b, ct, x => match x with
    | .Compare l [p] [r] _ => decide (p = o) && !(behindInMarks o r) && chk Γ a ct l && chk Γ b ct r
    | _ => false
  | .chn o o' a b c, ct, x => match x with
    | .Compare l [p, p'] [r, r'] _ => decide (p = o) && decide (p' = o') && !(lastMarks [o, o'] [r, r']) && chk Γ a ct l && chk Γ b ct r && chk Γ c ct r'
    | _ => false
  | .and a b, ct, x => match x with
    | .BoolOp .And [y, z] _ => chk Γ a ct y && chk Γ b ct z
    | .BoolOp .And (y :: z :: w :: r) _ => chk Γ a ct y && chkAnd Γ b ct (z :: w :: r)
    | _ => false
  | .or a b, ct, x => match x with
    | .BoolOp .Or [y, z] _ => chk Γ a ct y && chk Γ b ct z
    | .BoolOp .Or (y :: z :: w :: r) _ => chk Γ a ct y && chkOr Γ b ct (z :: w :: r)
    | _ => false
  | .not a, ct, x => match x with
    | .UnaryOp .Not l _ => chk Γ a ct l
    | _ => false
  | .ife t a b, ct, x => match x with
    | .IfExp y z w _ => chk Γ t ct y && chk Γ a ct z && chk Γ b ct w
    | _ => false
  | .tup es, ct, x => match x with
    | .Tuple xs _ _ => chkA Γ es ct xs
    | _ => false
  | .lst es, ct, x => match x with
    | .List xs _ => chkA Γ es ct xs
    | _ => false
  | .dnw, _, x => match x with
    | .Dict [] [] _ => true
    | _ => false
  | .idx a b, ct, x => match x with
    | .Subscript l r _ => noSl r && chk Γ a ct l && chk Γ b ct r
    | _ => false
  | .slc a lo hi, ct, x => match x with
    | .Subscript l (.Slice p q none _) _ => chk Γ a ct l && chkO Γ lo ct p && chkO Γ hi ct q
    | _ => false
  | .rev a, ct, x => match x with
    | .Subscript l (.Slice none none (some (.UnaryOp .USub (.Constant (.int 1) _ _) _)) _) _ => chk Γ a ct l
    | _ => false
  | .bi f es, ct, x => match x with
    | .Call (.Name y _) (e :: r) [] _ => decide (y = biNm f) && glB ct.sc y && chkA Γ es ct (e :: r)
    | _ => false
  | .call f es, ct, x => match x with
    | .Call (.Name y _) (e :: r) [] _ => decide (Γ.fn f = some (y, esLen es)) && glB ct.sc y && okN y && chkA Γ es ct (e :: r)
    | _ => false
  | .mth m o es, ct, x => match x with
    | .Call (.Attribute ob nm ap) args [] cp => decide (nm = mtNm m) && decide (ap.endLine = cp.line) && noCall ob && mtB m args.length && chk Γ o ct ob && chkA Γ es ct args
    | _ => false
  | .lc t it c e own, ct, x => match x with
    | .ListComp el [⟨tg, iter, ifs, 0⟩] scope _ => blkB Γ.N ct.sc scope own && (tsl t).all (fun j => own.contains j) && chkI Γ it ct iter tg && chkT Γ t (ctIn ct scope) tg && chkTo Γ c (ctIn ct scope) ifs && chk Γ e (ctIn ct scope) el
    | _ => false
  | .dc t it c k v own, ct, x => match x with
    | .DictComp kx vx [⟨tg, iter, ifs, 0⟩] scope _ => blkB Γ.N ct.sc scope own && (tsl t).all (fun j => own.contains j) && chkI Γ it ct iter tg && chkT Γ t (ctIn ct scope) tg && chkTo Γ c (ctIn ct scope) ifs && chk Γ k (ctIn ct scope) kx && chk Γ v (ctIn ct scope) vx
    | _ => false
  | .rg1 t a, ct, x => match x with
    | .Call (.Name y _) [.Call (.Name z _) [w] [] _] [] _ => decide (y = if t then "tuple" else "list") && decide (z = "range") && glB ct.sc y && glB ct.sc z && noStar w && chk Γ a ct w
    | _ => false
  | .rg2 t a b, ct, x => match x with
    | .Call (.Name y _) [.Call (.Name z _) [w, v] [] _] [] _ => decide (y = if t then "tuple" else "list") && decide (z = "range") && glB ct.sc y && glB ct.sc z && noStar w && noStar v && chk Γ a ct w && chk Γ b ct v
    | _ => false
def chkAnd (Γ : Ga) : E → Ct → List Expr → Bool
  | .and a b, ct, xs => match xs with
    | [y, z] => chk Γ a ct y && chk Γ b ct z
    | y :: z :: w :: r => chk Γ a ct y && chkAnd Γ b ct (z :: w :: r)
    | _ => false
  | _, _, _ => false
def chkOr (Γ : Ga) : E → Ct → List Expr → Bool
  | .or a b, ct, xs => match xs with
    | [y, z] => chk Γ a ct y && chk Γ b ct z
    | y :: z :: w :: r => chk Γ a ct y && chkOr Γ b ct (z :: w :: r)
    | _ => false
  | _, _, _ => false
def chkA (Γ : Ga) : Es → Ct → List Expr → Bool
  | .nil, _, xs => match xs with
    | [] => true
    | _ => false
  | .cons e r, ct, xs => match xs with
    | x :: ys => noStar x && chk Γ e ct x && chkA Γ r ct ys
    | _ => false
def chkO (Γ : Ga) : Oe → Ct → Option Expr → Bool
  | .no, _, x => match x with
    | none => true
    | _ => false
  | .so e, ct, x => match x with
    | some y => chk Γ e ct y
    | _ => false
def chkTo (Γ : Ga) : Oe → Ct → List Expr → Bool
  | .no, _, x => match x with
    | [] => true
    | _ => false
  | .so e, ct, x => match x with
    | [y] => chk Γ e ct y
    | _ => false
def chkI (Γ : Ga) : It → Ct → Expr → Expr → Bool
  | .e a, ct, x, _ => noSet x && chk Γ a ct x
  | .rng es, ct, x, _ => match x with
    | .Call (.Name y _) [e] [] _ => decide (y = "range") && glB ct.sc y && chkA Γ es ct [e]
    | .Call (.Name y _) [e, f] [] _ => decide (y = "range") && glB ct.sc y && chkA Γ es ct [e, f]
    | _ => false
  | .enum a, ct, x, tg => match x, tg with
    | .Call (.Name y _) [e] [] _, .Tuple _ _ _ => decide (y = "enumerate") && glB ct.sc y && noStar e && chk Γ a ct e
    | _, _ => false
  | .zip a b, ct, x, tg => match x, tg with
    | .Call (.Name y _) [e, f] [] _, .Tuple _ _ _ => decide (y = "zip") && glB ct.sc y && noStar e && noStar f && chk Γ a ct e && chk Γ b ct f
    | _, _ => false
def chkT (Γ : Ga) : T → Ct → Expr → Bool
  | .nm i, ct, x => match x with
    | .Name y _ => decide (Γ.N[i]? = some y) && locB ct y
    | _ => false
  | .sub o i, ct, x => match x with
    | .Subscript ob ix _ => noSl ix && chk Γ o ct ob && chk Γ i ct ix
    | _ => false
  | .tup ts, ct, x => match x with
    | .Tuple xs _ _ => quietTs ts && chkTs Γ ts ct xs
    | _ => false
def chkTs (Γ : Ga) : Ts → Ct → List Expr → Bool
  | .nil, _, xs => match xs with
    | [] => true
    | _ => false
  | .cons t r, ct, xs => match xs with
    | x :: ys => noStar x && chkT Γ t ct x && chkTs Γ r ct ys
    | _ => false
end
/-- a list comprehension that is made into its local name -/
def swB (ct : Ct) (v : Expr) (y : Str) (py : Pos) : Bool := match v with
  | .ListComp _ _ scope pos => isLoc ct y && (py.line == pos.line) && !(scope.names.any fun (n, k) => n == y && (k == .local || k == .cell))
  | .DictComp _ _ _ scope pos => isLoc ct y && (py.line == pos.line) && !(scope.names.any fun (n, k) => n == y && (k == .local || k == .cell))
  | .SetComp _ _ _ _ => true
  | _ => false
def isLcE : E → Bool
  | .lc _ _ _ _ _ => true
  | _ => false
/-- a tuple display that is not stored name by name -/
def swN (ct : Ct) (xs : List Expr) : Bool := xs.any fun
  | .Name y _ => !(isLoc ct y)
  | _ => true
def chkAsg (Γ : Ga) (t : T) (e : E) (ct : Ct) (x v : Expr) : Bool := match t, x with
  | .nm i, .Name y py => decide (Γ.N[i]? = some y) && locB ct y && chk Γ e ct v && (!(swB ct v y py) || isLcE e)
  | .sub o i, .Subscript ob ix _ => noSl ix && noComp v && chk Γ e ct v && chk Γ o ct ob && chk Γ i ct ix
  | .tup ts, .Tuple xs _ _ => noComp v && (noDisp v || swN ct xs) && chk Γ e ct v && quietTs ts && chkTs Γ ts ct xs
  | _, _ => false
def chkAsgs (Γ : Ga) (ts : Ts) (es : Es) (ct : Ct) (xs vs : List Expr) : Bool := match ts, xs, vs with
  | .cons (.nm i) (.cons (.nm j) .nil), [.Name y py, .Name z pz], [a, b] =>
    decide (Γ.N[i]? = some y) && decide (Γ.N[j]? = some z) && decide (i ≠ j) && isLoc ct y && isLoc ct z && (pz.line == py.line) && chkA Γ es ct [a, b] &&
      !([a, b].all (foldedForSure 8)) && !([a, b].all (constantsAlone 8))
  | .cons (.nm i) (.cons (.nm j) (.cons (.nm k) .nil)), [.Name y py, .Name z pz, .Name w pw], [a, b, c] =>
    decide (Γ.N[i]? = some y) && decide (Γ.N[j]? = some z) && decide (Γ.N[k]? = some w) && decide (i ≠ j) && decide (i ≠ k) && decide (j ≠ k) && isLoc ct y && isLoc ct z && isLoc ct w && (pz.line == py.line) && (pw.line == py.line) && chkA Γ es ct [a, b, c] &&
      !([a, b, c].all (foldedForSure 8)) && !([a, b, c].all (constantsAlone 8))
  | _, _, _ => false
mutual
def chkS (Γ : Ga) : S → Ct → Stmt → Bool
  | .asg t e, ct, st => match st with
    | .Assign [x] v _ => chkAsg Γ t e ct x v
    | _ => false
  | .asgs ts es, ct, st => match st with
    | .Assign [.Tuple xs _ _] (.Tuple vs _ _) _ => chkAsgs Γ ts es ct xs vs
    | _ => false
  | .ex e, ct, st => match st with
    | .Expr x _ => noComp x && chk Γ e ct x
    | _ => false
  | .ret e, ct, st => match st with
    | .Return (some x) _ => chk Γ e ct x
    | _ => false
  | .ret0, _, st => match st with
    | .Return none _ => true
    | _ => false
  | .ife t a b, ct, st => match st with
    | .If x y z _ => chk Γ t ct x && chkSs Γ a ct y && chkSs Γ b ct z
    | _ => false
  | .whl t b, ct, st => match st with
    | .While x y [] _ => chk Γ t ct x && chkSs Γ b ct y
    | _ => false
  | .fr t it b, ct, st => match st with
    | .For tg iter y [] _ => chkI Γ it ct iter tg && chkT Γ t ct tg && chkSs Γ b ct y
    | _ => false
  | .rse _ _, _, _ => false
  | .brk, _, st => match st with
    | .Break _ => true
    | _ => false
  | .cnt, _, st => match st with
    | .Continue _ => true
    | _ => false
  | .pss, _, st => match st with
    | .Pass _ => true
    | .Expr (.Constant (.str _) _ _) _ => true
    | _ => false
  | .nvr, _, _ => true
def chkSs (Γ : Ga) : Ss → Ct → List Stmt → Bool
  | .nil, _, xs => match xs with
    | [] => true
    | _ => false
  | .cons a r, ct, xs => match xs with
    | x :: ys => chkS Γ a ct x && chkSs Γ r ct ys
    | _ => false
end
end Pv

set_option Elab.async false
set_option linter.all false
set_option maxRecDepth 100000
namespace Pv
open PySem L2 PySem.Spec PyProof.Rows

/-- where a text is run -/
structure Gd (X : Cx) (Z : Pm) (C : Cl) (Γ : Ga) (ct : Ct) : Prop where
  N : X.N = Γ.N
  nd : X.N.Nodup
  K : X.K = Z.K
  calm : X.calm = true
  hu : X.A.units + 65 < cLine
  kd : X.env.scope.kind = .function
  sc : X.env.scope = ct.sc
  fn : X.fn = ct.fn
  tk : Takes X Z.W
  bt : ∀ x ∈ btNs, X.mg x = none
  gl : ∀ n y, Γ.gn n = some y → ∃ v u d, C.gl n = some d ∧ X.mg y = some u ∧ RelV v u ∧ ∀ g H, Bo Z.K g H v d
  fs : ∀ f y np, Γ.fn f = some (y, np) → ∃ fa fd ps k, X.mg y = some (.ref fa) ∧ PySem.W.keepIn X.K (.ref fa) = true ∧ Binds X.K fd ps [] ∧ Room k X.A ∧ FnOk X.prog X.w X.K X.mg X.base (L2.CX X.prog X.w) k fa fd ps (spF Z C f np)
section
variable {X : Cx} {Z : Pm} {C : Cl} {Γ : Ga} {ct : Ct} {x y : Str} {e : Expr} {pos : Pos}
theorem vis_of (G : Gd X Z C Γ ct) (h : visB ct.sc x = true) : Vis X.env.scope x := by
  rw [G.sc]
  unfold visB at h
  unfold Vis
  split at h
  · rename_i e; exact .inl e
  · rename_i e; exact .inr (.inl e)
  · rename_i e; exact .inr (.inr e)
  · cases h
theorem gl_of (G : Gd X Z C Γ ct) (h : glB ct.sc x = true) : Gl X x := by
  show X.env.scope.names.lookup x = some .globalImplicit
  rw [G.sc]
  unfold glB at h
  split at h
  · rename_i e; exact e
  · cases h
theorem loc_of (G : Gd X Z C Γ ct) (h : locB ct x = true) : L2.Loc X.env.scope x ∧ (X.fn x = true ∨ X.env.scope.names.lookup x = some .local) := by
  unfold L2.Loc
  rw [G.sc, G.fn]
  unfold locB at h
  split at h
  · rename_i e; exact ⟨.inl e, .inr e⟩
  · rename_i e; exact ⟨.inr e, .inl h⟩
  · cases h
theorem isLoc_of (G : Gd X Z C Γ ct) (h : isLoc ct x = true) : X.env.scope.names.lookup x = some .local := by
  rw [G.sc]
  unfold isLoc at h
  split at h
  · rename_i e; exact e
  · cases h
theorem okN_of (h : okN x = true) : (x == ("__debug__" : Str)) = false ∧ (x == ("__classdict__" : Str)) = false := by
  unfold okN at h
  simp only [Bool.and_eq_true, Bool.not_eq_true'] at h
  exact h
theorem star_of {es : List Expr} {env : Env} (h : noStar e = true) : starEach (e :: es) env = (false, eval e env) :: starEach es env := by
  cases e <;> first | rfl | exact nomatch h
theorem starE_of {es : List Expr} {env : Env} (h : noStar e = true) : (assignEach (e :: es) env) = (false, assign e env) :: assignEach es env := by
  cases e <;> first | rfl | exact nomatch h
theorem lit_of {d : D} {c : Const} {k : Nat} (h : litB d c = true) : PE X (.Constant c k pos) (tE Z C (.lit d)) := by
  cases d with
  | int i =>
    cases c with
    | int j => have e : i = j := of_decide_eq_true h; subst e; exact e_lit pe_int fun _ _ => .int _
    | _ => exact nomatch h
  | str i =>
    cases c with
    | str j => have e : i = j := of_decide_eq_true h; subst e; exact e_lit pe_str fun _ _ => .str _
    | _ => exact nomatch h
  | bl i =>
    cases c with
    | bool j => have e : i = j := of_decide_eq_true h; subst e; exact e_lit pe_bl fun _ _ => .bl _
    | _ => exact nomatch h
  | non =>
    cases c with
    | none => exact e_lit pe_non fun _ _ => .non
    | _ => exact nomatch h
  | _ => exact nomatch h
theorem ty_of (G : Gd X Z C Γ ct) {d : D} (hg : Gl X y) (ho : okN y = true) (h : tyB d y = true) : PE X (.Name y pos) (tE Z C (.lit d)) := by
  cases d with
  | ty n =>
    have h : tyNm n = some y := of_decide_eq_true h
    unfold tyNm at h
    split at h
    · cases h; exact e_lit (pe_bltn hg (G.bt _ (by decide)) boot_int (v := .ty "int") rfl (by decide)) fun _ _ => .ty _
    · cases h; exact e_lit (pe_bltn hg (G.bt _ (by decide)) boot_bool (v := .ty "bool") rfl (by decide)) fun _ _ => .ty _
    · cases h; exact e_lit (pe_bltn hg (G.bt _ (by decide)) boot_tuple (v := .ty "tuple") rfl (by decide)) fun _ _ => .ty _
    · cases h; exact e_lit (pe_bltn hg (G.bt _ (by decide)) boot_str (v := .ty "str") rfl (by decide)) fun _ _ => .ty _
    · cases h; exact e_lit (pe_bltn hg (G.bt _ (by decide)) boot_list (v := .ty "list") rfl (by decide)) fun _ _ => .ty _
    · cases h
  | _ => exact nomatch h
theorem t_no {ee : E} (h : ∀ s, evT C ee s = .no) : PT X e (tT Z C ee) := ⟨fun pins s σ H Q I ⟨g, s', m, q⟩ => by
  rw [h] at q
  exact q.elim⟩
theorem bt_mem (f : Bi) : biNm f ∈ btNs := by cases f <;> decide
theorem bt_boot (f : Bi) : bootBuiltins (biNm f) = some (valBi f) := by cases f <;> decide +kernel
theorem bt_ne (f : Bi) : biNm f ≠ "__name__" ∧ (biNm f == ("__debug__" : Str)) = false := by cases f <;> decide
theorem fold_of {iter : Expr} {env : Env} (h : noSet iter = true) : ∀ x, foldedSetIterable iter env x = pure x := by
  intro x
  cases iter <;> first | rfl | exact nomatch h
theorem sl_of {o i : Expr} (h : noSl i = true) : PlainIx i := by
  intro o j
  cases i <;> first | rfl | exact nomatch h
theorem asg_of {o i : Expr} {env : Env} (h : noSl i = true) : ∀ v, assign (.Subscript o i pos) env v = (do
      let ov ← holding [v] (eval o env)
      let iv ← holding [v, ov] (eval i env)
      standAt pos
      holding [v, ov, iv] (setItem ov iv v)
      release [v, ov, iv] []) := by
  intro v
  cases i <;> first | rfl | exact nomatch h
theorem base_of {o : Expr} {nm : Str} {env : Env} (h : noCall o = true) : attributeBase o nm env (eval o env) = eval o env := by
  cases o <;> first | rfl | exact nomatch h
theorem blk_of {N : List Str} {sc scope : Scope} {own : List Nat} (h : blkB N sc scope own = true) : BlkOk N sc scope (own.filterMap fun j => (N[j]?).map fun x => (x, j)) ∧ (own.filterMap fun j => (N[j]?).map fun x => (x, j)).map (·.2) = own := by
  unfold blkB at h
  simp only [Bool.and_eq_true, List.all_eq_true, decide_eq_true_eq] at h
  obtain ⟨⟨⟨h1, h2⟩, h3⟩, h4⟩ := h
  have mem : ∀ {x j}, j ∈ own → N[j]? = some x → (x, j) ∈ own.filterMap fun j => (N[j]?).map fun x => (x, j) := fun {x j} hj e => List.mem_filterMap.mpr ⟨j, hj, by rw [e]; rfl⟩
  refine ⟨⟨h1, fun y hy => h2 y hy, fun p hp => ?_, fun y hy e => ?_, fun y hy e => ?_⟩, ?_⟩
  · obtain ⟨j, hj, e⟩ := List.mem_filterMap.mp hp
    obtain ⟨x, e1, e2⟩ := Option.map_eq_some_iff.mp e
    subst e2
    exact e1
  · have w := h4 y hy
    rw [e] at w
    simp only at w
    split at w
    · rename_i q; exact .inl q
    · rename_i q; exact .inr q
    · cases w
  · have w := h4 y hy
    have key : (own.any (fun j => decide (N[j]? = some y.1)) || !(N.contains y.1)) = true := by
      rcases e with e | e <;> (rw [e] at w; exact w)
    rcases Bool.or_eq_true_iff.mp key with k | k
    · obtain ⟨j, hj, q⟩ := List.any_eq_true.mp k
      exact .inl (List.mem_map.mpr ⟨(y.1, j), mem hj (of_decide_eq_true q), rfl⟩)
    · refine .inr fun m => ?_
      have : N.contains y.1 = true := List.contains_iff_mem.mpr m
      rw [this] at k
      cases k
  · clear h1 h2 h4 mem
    induction own with
    | nil => rfl
    | cons j own ih =>
      have hj := h3 j List.mem_cons_self
      obtain ⟨x, e⟩ := Option.isSome_iff_exists.mp hj
      rw [List.filterMap_cons]
      simp only [e, Option.map_some, List.map_cons]
      rw [ih fun k hk => h3 k (List.mem_cons_of_mem _ hk)]
/-- inside a block -/
theorem Gd.blk (G : Gd X Z C Γ ct) {scope : Scope} (hk : scope.kind = .function) (s : Shared) (H : Hp) (C' : Addr) (cl : List (Str × Addr)) (fp : List Addr) : Gd (X.blk s H scope (compEnvC scope cl C' X.env) fp) Z.nx C Γ (ctIn ct scope) where
  N := G.N
  nd := G.nd
  K := G.K
  calm := G.calm
  hu := G.hu
  kd := hk
  sc := by
    show relS scope X.env.scope = relC scope ct.sc
    rw [G.sc]
    rfl
  fn := rfl
  tk := takes0
  bt := G.bt
  gl := G.gl
  fs := G.fs
end
end Pv

set_option Elab.async false
set_option linter.all false
set_option maxRecDepth 100000
namespace Pv
open PySem L2 PySem.Spec PyProof.Rows

theorem ext_inv {x : D} {ds : List D} {y q : D} (h : mutM .extend x ds = some (y, q)) : ∃ xs ys, x = .lst xs ∧ ds = [.lst ys] ∧ xs.length + ys.length ≤ lim ∧ y = .lst (xs ++ ys) ∧ q = .non := by
  unfold mutM at h
  split at h
  · contradiction
  · obtain ⟨h1, h2⟩ := some_iteP h
    cases h2
    exact ⟨_, _, rfl, rfl, h1, rfl, rfl⟩
  · cases h
theorem app_inv {x : D} {ds : List D} {y q : D} (h : mutM .append x ds = some (y, q)) : ∃ xs z, x = .lst xs ∧ ds = [z] ∧ xs.length < lim ∧ y = .lst (xs ++ [z]) ∧ q = .non := by
  unfold mutM at h
  split at h
  · obtain ⟨h1, h2⟩ := some_iteP h
    cases h2
    exact ⟨_, _, rfl, rfl, h1, rfl, rfl⟩
  · contradiction
  · cases h
theorem rMt_append {g : Gh} {H : Hp} {a : Addr} {ws vs : List V} {xs ds : List D} {y q : D} {Q : VK} (hx : ExH g.F H) (ha : H a = some (.lst ws)) (rw' : Reps g.ρ g.F ws xs) (rv : Reps g.ρ g.F vs ds) (hm : mutM .append (.lst xs) ds = some (y, q))
    (k : ∀ ws' ys v, y = .lst ys → Reps g.ρ g.F ws' ys → Rep g.ρ g.F v q → Q v (upd H a (.lst ws'))) : rAppend (.ref a) vs H Q := by
  obtain ⟨xs', z, e1, rfl, h1, rfl, rfl⟩ := app_inv hm
  cases e1
  cases rv with
  | cons r1 rr =>
    cases rr
    exact ⟨a, ws, _, rfl, rfl, ha, by rw [rw'.length, ← lim_eq]; exact h1, k _ _ _ rfl (rw'.append (.cons r1 .nil)) .non⟩
theorem rMt_extend {g : Gh} {H : Hp} {a : Addr} {ws vs : List V} {xs ds : List D} {y q : D} {Q : VK} (hx : ExH g.F H) (ha : H a = some (.lst ws)) (rw' : Reps g.ρ g.F ws xs) (rv : Reps g.ρ g.F vs ds) (hm : mutM .extend (.lst xs) ds = some (y, q))
    (k : ∀ ws' ys v, y = .lst ys → Reps g.ρ g.F ws' ys → Rep g.ρ g.F v q → Q v (upd H a (.lst ws'))) : rExtend (.ref a) vs H Q := by
  obtain ⟨xs', ys, e1, rfl, h1, rfl, rfl⟩ := ext_inv hm
  cases e1
  cases rv with
  | cons r1 rr =>
    cases rr
    cases r1 with
    | con _ hb ro =>
      cases ro with
      | lst ro => exact ⟨a, _, ws, _, rfl, rfl, ha, hx _ _ hb, by rw [rw'.length, ro.length, ← lim_eq]; exact h1, k _ _ _ rfl (rw'.append ro) .non⟩
theorem mut_lst {m : Mt} {x : D} {ds : List D} {y q : D} (hm : m = .append ∨ m = .extend) (h : mutM m x ds = some (y, q)) : ∃ xs ys, x = .lst xs ∧ y = .lst ys := by
  rcases hm with rfl | rfl
  · obtain ⟨xs, z, h1, _, _, h2, _⟩ := app_inv h
    exact ⟨xs, _, h1, h2⟩
  · obtain ⟨xs, z, h1, _, _, h2, _⟩ := ext_inv h
    exact ⟨xs, _, h1, h2⟩
section
variable {X : Cx} {Z : Pm} {C : Cl} {Γ : Ga} {ct : Ct}
theorem chkA_len {Γ : Ga} : ∀ {es : Es} {ct : Ct} {xs : List Expr}, chkA Γ es ct xs = true → xs.length = esLen es ∧ ∀ x ∈ xs, noStar x = true
  | .nil, ct, [], h => ⟨rfl, fun x hx => by simp at hx⟩
  | .nil, ct, _ :: _, h => nomatch h
  | .cons e r, ct, [], h => nomatch h
  | .cons e r, ct, x :: ys, h => by
    simp only [chkA, Bool.and_eq_true] at h
    obtain ⟨l, s⟩ := chkA_len h.2
    refine ⟨by rw [List.length_cons, l]; rfl, fun z hz => ?_⟩
    rcases List.mem_cons.mp hz with z1 | z1
    · rw [z1]; exact h.1.1
    · exact s z z1
theorem plain_of {pos : Pos} {env : Env} : ∀ {xs : List Expr}, (∀ x ∈ xs, noStar x = true) → (backTo pos (starEach xs env)).any (·.1) = false
  | [], _ => rfl
  | x :: xs, h => by
    rw [star_of (h x List.mem_cons_self)]
    show (false || (backTo pos (starEach xs env)).any (·.1)) = false
    rw [plain_of fun y hy => h y (List.mem_cons_of_mem _ hy)]
    rfl
theorem few_of {pos : Pos} {env : Env} {xs : List Expr} (h : ∀ x ∈ xs, noStar x = true) (hl : xs.length = 1) : ((backTo pos (starEach xs env)).all (fun x => !x.1) && (backToKw pos (keywordEach [] env)).all (fun x => x.1.isSome)
      && decide (xs.length + ([] : List Keyword).length + (if ([] : List Keyword).isEmpty then 0 else 1) < 30)) = true := by
  match xs, hl with
  | [x], _ =>
    rw [star_of (h x List.mem_cons_self)]
    rfl
theorem asDs_len {C : Cl} : ∀ {ts : Ts} {ds : List D} {s s' : St} {u : Unit}, asDs C ts ds s = .ok u s' → ds.length = tsLen ts
  | .nil, [], _, _, _, _ => rfl
  | .nil, _ :: _, _, _, _, h => by cases h
  | .cons t r, [], _, _, _, h => by cases h
  | .cons t r, d :: ds, s, s', u, h => by
    obtain ⟨_, s1, h1, h⟩ := R.inv h
    rw [List.length_cons, asDs_len h]
    rfl
theorem simE_nex {C : Cl} {e : E} {s s' : St} {x : Xc} (h : simE e = true) : ev C e s ≠ .ex x s' := by
  cases e with
  | loc i =>
    simp only [ev]
    split <;> exact fun h => nomatch h
  | lit d => exact fun h => nomatch h
  | gl n =>
    simp only [ev]
    split <;> exact fun h => nomatch h
  | _ => exact nomatch h
theorem sub_nex {C : Cl} {o i : E} {d : D} {s s' : St} {x : Xc} (h : (simE o && simE i) = true) : asD C (.sub o i) d s ≠ .ex x s' := by
  obtain ⟨h1, h2⟩ := Bool.and_eq_true_iff.mp h
  simp only [asD]
  cases q1 : ev C o s with
  | no => exact fun h => nomatch h
  | ex y t => exact (simE_nex h1 q1).elim
  | ok p s1 =>
    simp only [Pv.R.bind_ok]
    cases q2 : ev C i s1 with
    | no => exact fun h => nomatch h
    | ex y t => exact (simE_nex h2 q2).elim
    | ok q s2 =>
      simp only [Pv.R.bind_ok]
      cases deref s2 q with
      | none => exact fun h => nomatch h
      | some k => exact putAt_nex
mutual
theorem quietT_nex {C : Cl} : ∀ {t : T} {d : D} {s s' : St} {x : Xc}, quietT t = true → asD C t d s ≠ .ex x s'
  | .nm i, d, s, s', x, _ => by simp only [asD]; exact putNm_nex
  | .sub o i, d, s, s', x, h => sub_nex h
  | .tup ts, d, s, s', x, h => by
    simp only [asD]
    split
    · exact quietTs_nex h
    · exact quietTs_nex h
    · exact fun h => nomatch h
theorem quietTs_nex {C : Cl} : ∀ {ts : Ts} {ds : List D} {s s' : St} {x : Xc}, quietTs ts = true → asDs C ts ds s ≠ .ex x s'
  | .nil, [], _, _, _, _ => fun h => nomatch h
  | .nil, _ :: _, _, _, _, _ => fun h => nomatch h
  | .cons _ _, [], _, _, _, _ => fun h => nomatch h
  | .cons t r, d :: ds, s, s', x, h => by
    simp only [quietTs, Bool.and_eq_true] at h
    simp only [asDs]
    cases q : asD C t d s with
    | no => exact fun h => nomatch h
    | ex y t => exact (quietT_nex h.1 q).elim
    | ok u s1 =>
      simp only [Pv.R.bind_ok]
      exact quietTs_nex h.2
end
theorem starEs_of {env : Env} : ∀ {xs : List Expr}, (∀ x ∈ xs, noStar x = true) → (assignEach xs env).length = xs.length ∧ (assignEach xs env).findIdx? (·.1) = none
  | [], _ => ⟨rfl, rfl⟩
  | x :: xs, h => by
    obtain ⟨h1, h2⟩ := starEs_of (env := env) (xs := xs) fun y hy => h y (List.mem_cons_of_mem _ hy)
    rw [starE_of (h x List.mem_cons_self)]
    refine ⟨by rw [List.length_cons, List.length_cons, h1], ?_⟩
    rw [List.findIdx?_cons]
    simp [h2]
theorem chkTs_len {Γ : Ga} : ∀ {ts : Ts} {ct : Ct} {xs : List Expr}, chkTs Γ ts ct xs = true → xs.length = tsLen ts ∧ ∀ x ∈ xs, noStar x = true
  | .nil, ct, [], h => ⟨rfl, fun x hx => by simp at hx⟩
  | .nil, ct, _ :: _, h => nomatch h
  | .cons e r, ct, [], h => nomatch h
  | .cons e r, ct, x :: ys, h => by
    simp only [chkTs, Bool.and_eq_true] at h
    obtain ⟨l, s⟩ := chkTs_len h.2
    refine ⟨by rw [List.length_cons, l]; rfl, fun z hz => ?_⟩
    rcases List.mem_cons.mp hz with z1 | z1
    · rw [z1]; exact h.1.1
    · exact s z z1
theorem biPE (G : Gd X Z C Γ ct) {f : Bi} {e : Expr} {r : List Expr} {t : TA} {p pos : Pos} (hg : Gl X (biNm f)) (ha : PA X (e :: r) t) (hs : ∀ x ∈ (e :: r), noStar x = true) : PE X (.Call (.Name (biNm f) p) (e :: r) [] pos) (tCB (rBi X.K f) t) := by
  have hb := bi_D (X := X) G.hu G.calm f
  have hm := G.bt _ (bt_mem f)
  have hv := bt_boot f
  obtain ⟨n1, n2⟩ := bt_ne f
  have h1 := star_of (es := r) (env := X.env) (hs e List.mem_cons_self)
  have h2 := plain_of (pos := pos) (env := X.env) fun y hy => hs y (List.mem_cons_of_mem _ hy)
  cases f <;> first
    | exact pe_callB hb hg hm hv ha n1 n2 h1 h2
    | exact pe_callTy hb hg hm hv ha n1 n2 h1 h2
end
end Pv

set_option Elab.async false
set_option linter.all false
set_option maxRecDepth 100000
namespace Pv
open PySem L2 PySem.Spec PyProof.Rows
theorem and4 {a b : Bool} (h : (a && b) = true) : a = true ∧ b = true := Bool.and_eq_true_iff.mp h
theorem PE.and1 {X : Cx} {e : Expr} {t : TE} {pos : Pos} {op} (h : PE X e t) : PE X (.BoolOp op [e] pos) t := pe_one h
theorem one_star {v : Expr} (h : noStar v = true) : ∀ y ∈ [v], noStar y = true := fun y hy => by
  have : y = v := by simpa using hy
  rw [this]
  exact h
theorem two_star {a b : Expr} {env : Env} (hs : ∀ x ∈ [a, b], noStar x = true) : starEach [a, b] env = [(false, eval a env), (false, eval b env)] ∧ starEach [b] env = [(false, eval b env)] := by
  have s1 := star_of (es := [b]) (env := env) (hs a List.mem_cons_self)
  have s2 := star_of (es := []) (env := env) (hs b (List.mem_cons_of_mem _ List.mem_cons_self))
  exact ⟨by rw [s1, s2]; rfl, by rw [s2]; rfl⟩
mutual
theorem chk_ok : ∀ (e : E) {X : Cx} {Z : Pm} {C : Cl} {Γ : Ga} {ct : Ct} {x : Expr}, Gd X Z C Γ ct → chk Γ e ct x = true → PE X x (tE Z C e) ∧ PT X x (tT Z C e)
  | .lit d, X, Z, C, Γ, ct, x, G, h => by
    cases x with
    | Constant c k pos =>
      have he : PE X (.Constant c k pos) (tE Z C (.lit d)) := lit_of h
      exact ⟨he, t_val G.K he (fun _ => rfl) val_lit⟩
    | Name y pos =>
      obtain ⟨h1, h3⟩ := and4 h
      obtain ⟨h1, h2⟩ := and4 h1
      have he : PE X (.Name y pos) (tE Z C (.lit d)) := ty_of G (gl_of G h1) h2 h3
      exact ⟨he, t_val G.K he (fun _ => rfl) val_lit⟩
    | _ => exact nomatch h
  | .loc i, X, Z, C, Γ, ct, x, G, h => by
    cases x with
    | Name y pos =>
      obtain ⟨h1, h3⟩ := and4 h
      obtain ⟨h1, h2⟩ := and4 h1
      obtain ⟨d1, d2⟩ := okN_of h3
      have he : PE X (.Name y pos) (tE Z C (.loc i)) := e_loc (pe_var (by rw [G.N]; exact of_decide_eq_true h1) (vis_of G h2) d1 d2)
      exact ⟨he, t_val G.K he (fun _ => rfl) val_loc⟩
    | _ => exact nomatch h
  | .gl n, X, Z, C, Γ, ct, x, G, h => by
    cases x with
    | Name y pos =>
      obtain ⟨h1, h3⟩ := and4 h
      obtain ⟨h1, h2⟩ := and4 h1
      obtain ⟨d1, d2⟩ := okN_of h3
      obtain ⟨v, u, d, e1, e2, e3, e4⟩ := G.gl n y (of_decide_eq_true h1)
      exact ⟨e_gl (pe_glob (gl_of G h2) e2 e3 d1) e1 e4, t_no fun _ => rfl⟩
    | _ => exact nomatch h
  | .bin o a b, X, Z, C, Γ, ct, x, G, h => by
    cases x with
    | BinOp l p r pos =>
      obtain ⟨h1, h3⟩ := and4 h
      obtain ⟨h1, h2⟩ := and4 h1
      have e : p = o := of_decide_eq_true h1
      subst e
      exact ⟨e_bin G.K (chk_ok a G h2).1 (chk_ok b G h3).1, t_no fun _ => rfl⟩
    | _ => exact nomatch h
  | .neg a, X, Z, C, Γ, ct, x, G, h => by
    cases x with
    | UnaryOp op l pos =>
      cases op with
      | USub => exact ⟨e_neg G.K (chk_ok a G h).1, t_no fun _ => rfl⟩
      | _ => exact nomatch h
    | _ => exact nomatch h
  | .cmp o a b, X, Z, C, Γ, ct, x, G, h => by
    cases x with
    | Compare l ops rs pos =>
      match ops, rs, h with
      | [p], [r], h =>
        obtain ⟨h1, h4⟩ := and4 h
        obtain ⟨h1, h3⟩ := and4 h1
        obtain ⟨h1, h2⟩ := and4 h1
        have e : p = o := of_decide_eq_true h1
        subst e
        have hm : behindInMarks p r = false := by simpa using h2
        exact ⟨e_cmp G.K G.hu (chk_ok a G h3).1 (chk_ok b G h4).1 hm, t_cmp G.K G.hu (chk_ok a G h3).1 (chk_ok b G h4).1 hm⟩
    | _ => exact nomatch h
  | .chn o o' a b c, X, Z, C, Γ, ct, x, G, h => by
    cases x with
    | Compare l ops rs pos =>
      match ops, rs, h with
      | [p, p'], [r, r'], h =>
        obtain ⟨h1, h6⟩ := and4 h
        obtain ⟨h1, h5⟩ := and4 h1
        obtain ⟨h1, h4⟩ := and4 h1
        obtain ⟨h1, h3⟩ := and4 h1
        obtain ⟨h1, h2⟩ := and4 h1
        have e : p = o := of_decide_eq_true h1
        have e' : p' = o' := of_decide_eq_true h2
        subst e e'
        have hm : lastMarks [p, p'] [r, r'] = false := by simpa using h3
        exact ⟨e_chn G.K G.hu (chk_ok a G h4).1 (chk_ok b G h5).1 (chk_ok c G h6).1 hm, t_chn G.K G.hu (chk_ok a G h4).1 (chk_ok b G h5).1 (chk_ok c G h6).1 hm⟩
    | _ => exact nomatch h
  | .and a b, X, Z, C, Γ, ct, x, G, h => by
    cases x with
    | BoolOp op xs pos =>
      match op, xs, h with
      | .And, [y, z], h =>
        obtain ⟨h1, h2⟩ := and4 h
        obtain ⟨a1, a2⟩ := chk_ok a G h1
        obtain ⟨b1, b2⟩ := chk_ok b G h2
        exact ⟨e_and a1 (pe_one b1), (w_and a2 (pw_and1 b2)).pt⟩
      | .And, y :: z :: w :: r, h =>
        obtain ⟨h1, h2⟩ := and4 h
        obtain ⟨a1, a2⟩ := chk_ok a G h1
        obtain ⟨b1, b2⟩ := chkAnd_ok (pos := pos) b G h2
        exact ⟨e_and a1 b1, (w_and a2 b2).pt⟩
    | _ => exact nomatch h
  | .or a b, X, Z, C, Γ, ct, x, G, h => by
    cases x with
    | BoolOp op xs pos =>
      match op, xs, h with
      | .Or, [y, z], h =>
        obtain ⟨h1, h2⟩ := and4 h
        obtain ⟨a1, a2⟩ := chk_ok a G h1
        obtain ⟨b1, b2⟩ := chk_ok b G h2
        exact ⟨e_or a1 (pe_one b1), (w_or a2 (pw_or1 b2)).pt⟩
      | .Or, y :: z :: w :: r, h =>
        obtain ⟨h1, h2⟩ := and4 h
        obtain ⟨a1, a2⟩ := chk_ok a G h1
        obtain ⟨b1, b2⟩ := chkOr_ok (pos := pos) b G h2
        exact ⟨e_or a1 b1, (w_or a2 b2).pt⟩
    | _ => exact nomatch h
  | .not a, X, Z, C, Γ, ct, x, G, h => by
    cases x with
    | UnaryOp op l pos =>
      cases op with
      | Not => exact ⟨e_not (chk_ok a G h).1, t_not (chk_ok a G h).2⟩
      | _ => exact nomatch h
    | _ => exact nomatch h
  | .ife t a b, X, Z, C, Γ, ct, x, G, h => by
    cases x with
    | IfExp y z w pos =>
      obtain ⟨h1, h3⟩ := and4 h
      obtain ⟨h1, h2⟩ := and4 h1
      exact ⟨e_ife (chk_ok t G h1).2 (chk_ok a G h2).1 (chk_ok b G h3).1, t_no fun _ => rfl⟩
    | _ => exact nomatch h
  | .tup es, X, Z, C, Γ, ct, x, G, h => by
    cases x with
    | Tuple xs k pos => exact ⟨e_tup (chkA_ok es G h), t_no fun _ => rfl⟩
    | _ => exact nomatch h
  | .lst es, X, Z, C, Γ, ct, x, G, h => by
    cases x with
    | List xs pos => exact ⟨e_lst (chkA_ok es G h), t_no fun _ => rfl⟩
    | _ => exact nomatch h
  | .dnw, X, Z, C, Γ, ct, x, G, h => by
    cases x with
    | Dict ks vs pos =>
      match ks, vs, h with
      | [], [], _ => exact ⟨e_dnw, t_no fun _ => rfl⟩
    | _ => exact nomatch h
  | .idx a b, X, Z, C, Γ, ct, x, G, h => by
    cases x with
    | Subscript l r pos =>
      obtain ⟨h1, h3⟩ := and4 h
      obtain ⟨h1, h2⟩ := and4 h1
      exact ⟨e_idx G.K G.hu (chk_ok a G h2).1 (chk_ok b G h3).1 (sl_of (o := l) h1), t_no fun _ => rfl⟩
    | _ => exact nomatch h
  | .slc a lo hi, X, Z, C, Γ, ct, x, G, h => by
    cases x with
    | Subscript l r pos =>
      cases r with
      | Slice p q st p2 =>
        cases st with
        | none =>
          obtain ⟨h1, h3⟩ := and4 h
          obtain ⟨h1, h2⟩ := and4 h1
          exact ⟨e_slc G.K (chk_ok a G h1).1 (chkO_ok lo G h2) (chkO_ok hi G h3), t_no fun _ => rfl⟩
        | some _ => exact nomatch h
      | _ => exact nomatch h
    | _ => exact nomatch h
  | .rev a, X, Z, C, Γ, ct, x, G, h => by
    simp only [chk] at h
    split at h
    · exact ⟨e_rev G.K (chk_ok a G h).1, t_no fun _ => rfl⟩
    · cases h
  | .bi f es, X, Z, C, Γ, ct, x, G, h => by
    simp only [chk] at h
    split at h
    · obtain ⟨h1, h3⟩ := and4 h
      obtain ⟨h1, h2⟩ := and4 h1
      have e := of_decide_eq_true h1
      subst e
      have he := fun {p pos : Pos} => biPE (p := p) (pos := pos) G (gl_of G h2) (chkA_ok es G h3) (chkA_len h3).2
      exact ⟨e_bi G.K he, t_bi G.K he fun _ => rfl⟩
    · cases h
  | .call f es, X, Z, C, Γ, ct, x, G, h => by
    simp only [chk] at h
    split at h
    · obtain ⟨h1, h4⟩ := and4 h
      obtain ⟨h1, h3⟩ := and4 h1
      obtain ⟨h1, h2⟩ := and4 h1
      obtain ⟨d1, _⟩ := okN_of h3
      obtain ⟨fa, fd, ps, k, m1, m2, m3, m4, m5⟩ := G.fs _ _ _ (of_decide_eq_true h1)
      have hs := (chkA_len h4).2
      have he := fun {p pos : Pos} => pe_callSD (p := p) (pos := pos) m5 m4 (gl_of G h2) m1 m2 m3 .nil (passAt G.tk) (chkA_ok es G h4) d1 (star_of (hs _ List.mem_cons_self)) (plain_of fun y hy => hs y (List.mem_cons_of_mem _ hy))
      exact ⟨e_call rfl he, t_call G.K rfl he fun _ => rfl⟩
    · cases h
  | .mth m o es, X, Z, C, Γ, ct, x, G, h => by
    simp only [chk] at h
    split at h
    · rename_i ob nm ap args cp
      obtain ⟨h1, h6⟩ := and4 h
      obtain ⟨h1, h5⟩ := and4 h1
      obtain ⟨h1, h4⟩ := and4 h1
      obtain ⟨h1, h3⟩ := and4 h1
      obtain ⟨h1, h2⟩ := and4 h1
      have e := of_decide_eq_true h1
      subst e
      have hl : (ap.endLine == cp.line) = true := by
        rw [beq_iff_eq]
        exact of_decide_eq_true h2
      have hb := base_of (nm := mtNm m) (env := X.env) h3
      have ho := (chk_ok o G h5).1
      have ha := chkA_ok es G h6
      have hs := (chkA_len h6).2
      cases m with
      | append =>
        match args, h4, ha, hs with
        | [w], _, ha, hs =>
          refine ⟨e_append G.K rfl (fun d hd => ?_) (pe_bm PySem.F.plainAttrs_list PySem.F.slot_list_append PySem.F.type_list_append mt_append ho ha hb (few_of hs rfl) hl (star_of (hs _ List.mem_cons_self)) (plain_of fun y hy => hs y (List.mem_cons_of_mem _ hy))) rMt_append (mut_lst (.inl rfl)), t_no fun _ => rfl⟩
          cases d <;> first | exact ⟨_, rfl⟩ | exact nomatch hd
      | extend =>
        match args, h4, ha, hs with
        | [w], _, ha, hs =>
          refine ⟨e_append G.K rfl (fun d hd => ?_) (pe_bm PySem.F.plainAttrs_list PySem.F.slot_list_extend PySem.F.type_list_extend mt_extend ho ha hb (few_of hs rfl) hl (star_of (hs _ List.mem_cons_self)) (plain_of fun y hy => hs y (List.mem_cons_of_mem _ hy))) rMt_extend (mut_lst (.inr rfl)), t_no fun _ => rfl⟩
          cases d <;> first | exact ⟨_, rfl⟩ | exact nomatch hd
      | bitlen =>
        match args, es, h4, h6 with
        | [], .nil, _, _ => exact ⟨e_bits G.K (pe_bits ho hb hl), t_no fun _ => rfl⟩
      | _ => exact nomatch h4
    · cases h
  | .lc t it c e own, X, Z, C, Γ, ct, x, G, h => by
    simp only [chk] at h
    split at h
    · obtain ⟨h1, h6⟩ := and4 h
      obtain ⟨h1, h5⟩ := and4 h1
      obtain ⟨h1, h4⟩ := and4 h1
      obtain ⟨h1, h3⟩ := and4 h1
      obtain ⟨h1, h2⟩ := and4 h1
      have hb := blk_of h1
      obtain ⟨b1, b2⟩ := hb
      have hsub : ∀ j ∈ tsl t, j ∈ (own.filterMap fun j => (Γ.N[j]?).map fun x => (x, j)).map (·.2) := fun j hj => by
        rw [b2]
        have := List.all_eq_true.mp h2 j hj
        exact List.contains_iff_mem.mp this
      have GB := fun (s : Shared) (H : Hp) (C' : Addr) (cl : List (Str × Addr)) (fp : List Addr) => G.blk b1.kind s H C' cl fp
      have he := fun {pos : Pos} => e_lc (pos := pos) G.calm G.nd (chkI_ok it G h3).1 (by rw [G.N, G.sc]; exact b1) (fun s H C' cl fp => chkT_ok t (GB s H C' cl fp) h4) (fun s H C' cl fp => chkTo_ok c (GB s H C' cl fp) h5) (fun s H C' cl fp => (chk_ok e (GB s H C' cl fp) h6).1) (chkI_ok it G h3).2 hsub
      simp only [b2] at he
      exact ⟨PE.im he.1 (he (pos := ‹_›)).2, t_no fun _ => rfl⟩
    · cases h
  | .dc t it c k v own, X, Z, C, Γ, ct, x, G, h => by
    simp only [chk] at h
    split at h
    · obtain ⟨h1, h7⟩ := and4 h
      obtain ⟨h1, h6⟩ := and4 h1
      obtain ⟨h1, h5⟩ := and4 h1
      obtain ⟨h1, h4⟩ := and4 h1
      obtain ⟨h1, h3⟩ := and4 h1
      obtain ⟨h1, h2⟩ := and4 h1
      have hb := blk_of h1
      obtain ⟨b1, b2⟩ := hb
      have hsub : ∀ j ∈ tsl t, j ∈ (own.filterMap fun j => (Γ.N[j]?).map fun x => (x, j)).map (·.2) := fun j hj => by
        rw [b2]
        have := List.all_eq_true.mp h2 j hj
        exact List.contains_iff_mem.mp this
      have GB := fun (s : Shared) (H : Hp) (C' : Addr) (cl : List (Str × Addr)) (fp : List Addr) => G.blk b1.kind s H C' cl fp
      have hu := G.hu
      have he := fun {pos : Pos} => e_dc (pos := pos) G.K (by omega) G.calm G.nd (chkI_ok it G h3).1 (by rw [G.N, G.sc]; exact b1) (fun s H C' cl fp => chkT_ok t (GB s H C' cl fp) h4) (fun s H C' cl fp => chkTo_ok c (GB s H C' cl fp) h5) (fun s H C' cl fp => (chk_ok k (GB s H C' cl fp) h6).1) (fun s H C' cl fp => (chk_ok v (GB s H C' cl fp) h7).1) (chkI_ok it G h3).2 hsub
      simp only [b2] at he
      exact ⟨he, t_no fun _ => rfl⟩
    · cases h
  | .rg1 t a, X, Z, C, Γ, ct, x, G, h => by
    simp only [chk] at h
    split at h
    · obtain ⟨h1, h6⟩ := and4 h
      obtain ⟨h1, h5⟩ := and4 h1
      obtain ⟨h1, h4⟩ := and4 h1
      obtain ⟨h1, h3⟩ := and4 h1
      obtain ⟨h1, h2⟩ := and4 h1
      have e1 := of_decide_eq_true h1
      have e2 := of_decide_eq_true h2
      subst e2
      have ha := (chk_ok a G h6).1
      cases t with
      | true =>
        rw [if_pos rfl] at e1
        subst e1
        exact ⟨e_rg1 (pe_tupRg G.calm (gl_of G h3) (G.bt _ (by decide)) (prg_1 (gl_of G h4) (G.bt _ (by decide)) ha (star_of h5)) rfl), t_no fun _ => rfl⟩
      | false =>
        rw [if_neg Bool.false_ne_true] at e1
        subst e1
        exact ⟨e_rg1 (pe_listRg G.calm (gl_of G h3) (G.bt _ (by decide)) (prg_1 (gl_of G h4) (G.bt _ (by decide)) ha (star_of h5)) rfl), t_no fun _ => rfl⟩
    · cases h
  | .rg2 t a b, X, Z, C, Γ, ct, x, G, h => by
    simp only [chk] at h
    split at h
    · obtain ⟨h1, h8⟩ := and4 h
      obtain ⟨h1, h7⟩ := and4 h1
      obtain ⟨h1, h6⟩ := and4 h1
      obtain ⟨h1, h5⟩ := and4 h1
      obtain ⟨h1, h4⟩ := and4 h1
      obtain ⟨h1, h3⟩ := and4 h1
      obtain ⟨h1, h2⟩ := and4 h1
      have e1 := of_decide_eq_true h1
      have e2 := of_decide_eq_true h2
      subst e2
      have ha := (chk_ok a G h7).1
      have hb := (chk_ok b G h8).1
      cases t with
      | true =>
        rw [if_pos rfl] at e1
        subst e1
        exact ⟨e_rg2 (pe_tupRg G.calm (gl_of G h3) (G.bt _ (by decide)) (prg_2 (gl_of G h4) (G.bt _ (by decide)) ha hb (star_of h5) (star_of h6) (plain_of (one_star h6))) rfl), t_no fun _ => rfl⟩
      | false =>
        rw [if_neg Bool.false_ne_true] at e1
        subst e1
        exact ⟨e_rg2 (pe_listRg G.calm (gl_of G h3) (G.bt _ (by decide)) (prg_2 (gl_of G h4) (G.bt _ (by decide)) ha hb (star_of h5) (star_of h6) (plain_of (one_star h6))) rfl), t_no fun _ => rfl⟩
    · cases h
theorem chkAnd_ok : ∀ (e : E) {X : Cx} {Z : Pm} {C : Cl} {Γ : Ga} {ct : Ct} {xs : List Expr} {pos : Pos}, Gd X Z C Γ ct → chkAnd Γ e ct xs = true → PE X (.BoolOp .And xs pos) (tE Z C e) ∧ PW X (.BoolOp .And xs pos) (tT Z C e)
  | .and a b, X, Z, C, Γ, ct, xs, pos, G, h => by
    match xs, h with
    | [y, z], h =>
      obtain ⟨h1, h2⟩ := and4 h
      obtain ⟨a1, a2⟩ := chk_ok a G h1
      obtain ⟨b1, b2⟩ := chk_ok b G h2
      exact ⟨e_and a1 (pe_one b1), w_and a2 (pw_and1 b2)⟩
    | y :: z :: w :: r, h =>
      obtain ⟨h1, h2⟩ := and4 h
      obtain ⟨a1, a2⟩ := chk_ok a G h1
      obtain ⟨b1, b2⟩ := chkAnd_ok (pos := pos) b G h2
      exact ⟨e_and a1 b1, w_and a2 b2⟩
  | .lit _, _, _, _, _, _, _, _, _, h => nomatch h
  | .loc _, _, _, _, _, _, _, _, _, h => nomatch h
  | .gl _, _, _, _, _, _, _, _, _, h => nomatch h
  | .bin _ _ _, _, _, _, _, _, _, _, _, h => nomatch h
  | .neg _, _, _, _, _, _, _, _, _, h => nomatch h
  | .cmp _ _ _, _, _, _, _, _, _, _, _, h => nomatch h
  | .chn _ _ _ _ _, _, _, _, _, _, _, _, _, h => nomatch h
  | .or _ _, _, _, _, _, _, _, _, _, h => nomatch h
  | .not _, _, _, _, _, _, _, _, _, h => nomatch h
  | .ife _ _ _, _, _, _, _, _, _, _, _, h => nomatch h
  | .tup _, _, _, _, _, _, _, _, _, h => nomatch h
  | .lst _, _, _, _, _, _, _, _, _, h => nomatch h
  | .dnw, _, _, _, _, _, _, _, _, h => nomatch h
  | .idx _ _, _, _, _, _, _, _, _, _, h => nomatch h
  | .slc _ _ _, _, _, _, _, _, _, _, _, h => nomatch h
  | .rev _, _, _, _, _, _, _, _, _, h => nomatch h
  | .bi _ _, _, _, _, _, _, _, _, _, h => nomatch h
  | .call _ _, _, _, _, _, _, _, _, _, h => nomatch h
  | .mth _ _ _, _, _, _, _, _, _, _, _, h => nomatch h
  | .lc _ _ _ _ _, _, _, _, _, _, _, _, _, h => nomatch h
  | .dc _ _ _ _ _ _, _, _, _, _, _, _, _, _, h => nomatch h
  | .rg1 _ _, _, _, _, _, _, _, _, _, h => nomatch h
  | .rg2 _ _ _, _, _, _, _, _, _, _, _, h => nomatch h
theorem chkOr_ok : ∀ (e : E) {X : Cx} {Z : Pm} {C : Cl} {Γ : Ga} {ct : Ct} {xs : List Expr} {pos : Pos}, Gd X Z C Γ ct → chkOr Γ e ct xs = true → PE X (.BoolOp .Or xs pos) (tE Z C e) ∧ PW X (.BoolOp .Or xs pos) (tT Z C e)
  | .or a b, X, Z, C, Γ, ct, xs, pos, G, h => by
    match xs, h with
    | [y, z], h =>
      obtain ⟨h1, h2⟩ := and4 h
      obtain ⟨a1, a2⟩ := chk_ok a G h1
      obtain ⟨b1, b2⟩ := chk_ok b G h2
      exact ⟨e_or a1 (pe_one b1), w_or a2 (pw_or1 b2)⟩
    | y :: z :: w :: r, h =>
      obtain ⟨h1, h2⟩ := and4 h
      obtain ⟨a1, a2⟩ := chk_ok a G h1
      obtain ⟨b1, b2⟩ := chkOr_ok (pos := pos) b G h2
      exact ⟨e_or a1 b1, w_or a2 b2⟩
  | .lit _, _, _, _, _, _, _, _, _, h => nomatch h
  | .loc _, _, _, _, _, _, _, _, _, h => nomatch h
  | .gl _, _, _, _, _, _, _, _, _, h => nomatch h
  | .bin _ _ _, _, _, _, _, _, _, _, _, h => nomatch h
  | .neg _, _, _, _, _, _, _, _, _, h => nomatch h
  | .cmp _ _ _, _, _, _, _, _, _, _, _, h => nomatch h
  | .chn _ _ _ _ _, _, _, _, _, _, _, _, _, h => nomatch h
  | .and _ _, _, _, _, _, _, _, _, _, h => nomatch h
  | .not _, _, _, _, _, _, _, _, _, h => nomatch h
  | .ife _ _ _, _, _, _, _, _, _, _, _, h => nomatch h
  | .tup _, _, _, _, _, _, _, _, _, h => nomatch h
  | .lst _, _, _, _, _, _, _, _, _, h => nomatch h
  | .dnw, _, _, _, _, _, _, _, _, h => nomatch h
  | .idx _ _, _, _, _, _, _, _, _, _, h => nomatch h
  | .slc _ _ _, _, _, _, _, _, _, _, _, h => nomatch h
  | .rev _, _, _, _, _, _, _, _, _, h => nomatch h
  | .bi _ _, _, _, _, _, _, _, _, _, h => nomatch h
  | .call _ _, _, _, _, _, _, _, _, _, h => nomatch h
  | .mth _ _ _, _, _, _, _, _, _, _, _, h => nomatch h
  | .lc _ _ _ _ _, _, _, _, _, _, _, _, _, h => nomatch h
  | .dc _ _ _ _ _ _, _, _, _, _, _, _, _, _, h => nomatch h
  | .rg1 _ _, _, _, _, _, _, _, _, _, h => nomatch h
  | .rg2 _ _ _, _, _, _, _, _, _, _, _, h => nomatch h
theorem chkA_ok : ∀ (e : Es) {X : Cx} {Z : Pm} {C : Cl} {Γ : Ga} {ct : Ct} {xs : List Expr}, Gd X Z C Γ ct → chkA Γ e ct xs = true → PA X xs (tA Z C e)
  | .nil, X, Z, C, Γ, ct, [], G, h => a_nil
  | .nil, X, Z, C, Γ, ct, _ :: _, G, h => nomatch h
  | .cons e r, X, Z, C, Γ, ct, [], G, h => nomatch h
  | .cons e r, X, Z, C, Γ, ct, x :: ys, G, h => by
    obtain ⟨h1, h3⟩ := and4 h
    obtain ⟨h1, h2⟩ := and4 h1
    exact a_cons (chk_ok e G h2).1 (chkA_ok r G h3) (star_of h1)
theorem chkO_ok : ∀ (e : Oe) {X : Cx} {Z : Pm} {C : Cl} {Γ : Ga} {ct : Ct} {x : Option Expr}, Gd X Z C Γ ct → chkO Γ e ct x = true → PO X x (tO Z C e)
  | .no, X, Z, C, Γ, ct, none, G, h => o_no
  | .no, X, Z, C, Γ, ct, some _, G, h => nomatch h
  | .so e, X, Z, C, Γ, ct, none, G, h => nomatch h
  | .so e, X, Z, C, Γ, ct, some y, G, h => o_so (chk_ok e G h).1
theorem chkTo_ok : ∀ (e : Oe) {X : Cx} {Z : Pm} {C : Cl} {Γ : Ga} {ct : Ct} {xs : List Expr}, Gd X Z C Γ ct → chkTo Γ e ct xs = true → PTs X xs (tTo Z C e)
  | .no, X, Z, C, Γ, ct, [], G, h => ⟨fun pins s σ H Q I ⟨g, s', m, q⟩ => pts_nil.run pins s σ H Q I (q g H true (.refl _ _) m rfl)⟩
  | .no, X, Z, C, Γ, ct, _ :: _, G, h => nomatch h
  | .so e, X, Z, C, Γ, ct, [], G, h => nomatch h
  | .so e, X, Z, C, Γ, ct, _ :: _ :: _, G, h => nomatch h
  | .so e, X, Z, C, Γ, ct, [y], G, h => pts_one (chk_ok e G h).2
theorem chkI_ok : ∀ (it : It) {X : Cx} {Z : Pm} {C : Cl} {Γ : Ga} {ct : Ct} {x tg : Expr}, Gd X Z C Γ ct → chkI Γ it ct x tg = true → PI X tg x (tIt Z C it) ∧ ∀ v, foldedSetIterable x X.env v = pure v
  | .e a, X, Z, C, Γ, ct, x, tg, G, h => by
    obtain ⟨h1, h2⟩ := and4 h
    exact ⟨i_e G.K (chk_ok a G h2).1, fold_of h1⟩
  | .rng es, X, Z, C, Γ, ct, x, tg, G, h => by
    simp only [chkI] at h
    split at h
    · obtain ⟨h1, h3⟩ := and4 h
      obtain ⟨h1, h2⟩ := and4 h1
      have e := of_decide_eq_true h1
      subst e
      obtain ⟨l, hs⟩ := chkA_len h3
      exact ⟨i_rng1 (pi_range1 (gl_of G h2) (G.bt _ (by decide)) (chkA_ok es G h3) (star_of (hs _ List.mem_cons_self))) (by rw [← l]; rfl), fun _ => rfl⟩
    · obtain ⟨h1, h3⟩ := and4 h
      obtain ⟨h1, h2⟩ := and4 h1
      have e := of_decide_eq_true h1
      subst e
      obtain ⟨l, hs⟩ := chkA_len h3
      exact ⟨i_rng2 (pi_range2 (gl_of G h2) (G.bt _ (by decide)) (chkA_ok es G h3) (two_star hs).1 (two_star hs).2) (by rw [← l]; rfl), fun _ => rfl⟩
    · cases h
  | .enum a, X, Z, C, Γ, ct, x, tg, G, h => by
    simp only [chkI] at h
    split at h
    · obtain ⟨h1, h4⟩ := and4 h
      obtain ⟨h1, h3⟩ := and4 h1
      obtain ⟨h1, h2⟩ := and4 h1
      have e := of_decide_eq_true h1
      subst e
      have hp := pa_cons (chk_ok a G h4).1 pa_nil (star_of h3)
      exact ⟨i_enum G.K (pi_enum (gl_of G h2) (G.bt _ (by decide)) hp (star_of h3)) (pi_enumT (gl_of G h2) (G.bt _ (by decide)) hp (star_of h3)), fun _ => rfl⟩
    · cases h
  | .zip a b, X, Z, C, Γ, ct, x, tg, G, h => by
    simp only [chkI] at h
    split at h
    · obtain ⟨h1, h6⟩ := and4 h
      obtain ⟨h1, h5⟩ := and4 h1
      obtain ⟨h1, h4⟩ := and4 h1
      obtain ⟨h1, h3⟩ := and4 h1
      obtain ⟨h1, h2⟩ := and4 h1
      have e := of_decide_eq_true h1
      subst e
      have hp := pa_cons (chk_ok a G h5).1 (pa_cons (chk_ok b G h6).1 pa_nil (star_of h4)) (star_of h3)
      exact ⟨i_zip G.K (RZ.pi_zipA (gl_of G h2) (G.bt _ (by decide)) hp (star_of h3) (plain_of (one_star h4))), fun _ => rfl⟩
    · cases h
theorem chkT_ok : ∀ (t : T) {X : Cx} {Z : Pm} {C : Cl} {Γ : Ga} {ct : Ct} {x : Expr}, Gd X Z C Γ ct → chkT Γ t ct x = true → PG X x (gD Z C t)
  | .nm i, X, Z, C, Γ, ct, x, G, h => by
    cases x with
    | Name y pos =>
      obtain ⟨h1, h2⟩ := and4 h
      obtain ⟨l1, l2⟩ := loc_of G h2
      exact g_nm (pg_name G.nd (by rw [G.N]; exact of_decide_eq_true h1) l1 l2)
    | _ => exact nomatch h
  | .sub o i, X, Z, C, Γ, ct, x, G, h => by
    cases x with
    | Subscript ob ix pos =>
      obtain ⟨h1, h3⟩ := and4 h
      obtain ⟨h1, h2⟩ := and4 h1
      have hu := G.hu
      exact g_sub G.K (by omega) (chk_ok o G h2).1 (chk_ok i G h3).1 (asg_of h1)
    | _ => exact nomatch h
  | .tup ts, X, Z, C, Γ, ct, x, G, h => by
    cases x with
    | Tuple xs k pos =>
      obtain ⟨h1, h2⟩ := and4 h
      obtain ⟨l, hs⟩ := chkTs_len h2
      obtain ⟨e1, e2⟩ := starEs_of (env := X.env) hs
      exact g_tup (n := tsLen ts) G.K G.calm (chkTs_ok ts G h2) (by rw [e1, l]) e2 (fun ds s s' u q => asDs_len q) (fun ds s s' x => quietTs_nex h1)
    | _ => exact nomatch h
theorem chkTs_ok : ∀ (t : Ts) {X : Cx} {Z : Pm} {C : Cl} {Γ : Ga} {ct : Ct} {xs : List Expr}, Gd X Z C Γ ct → chkTs Γ t ct xs = true → PGs X xs (gDs Z C t)
  | .nil, X, Z, C, Γ, ct, [], G, h => gs_nil
  | .nil, X, Z, C, Γ, ct, _ :: _, G, h => nomatch h
  | .cons e r, X, Z, C, Γ, ct, [], G, h => nomatch h
  | .cons e r, X, Z, C, Γ, ct, x :: ys, G, h => by
    obtain ⟨h1, h3⟩ := and4 h
    obtain ⟨h1, h2⟩ := and4 h1
    exact gs_cons (chkT_ok e G h2) (chkTs_ok r G h3) (by rw [starE_of h1]; rfl)
end
end Pv

set_option Elab.async false
set_option linter.all false
set_option maxRecDepth 100000
namespace Pv
open PySem L2 PySem.Spec PyProof.Rows
section
variable {X : Cx} {Z : Pm} {C : Cl} {Γ : Ga} {ct : Ct} {x v : Expr} {pos : Pos}
theorem bk_of (G : Gd X Z C Γ ct) : X.env.blockKind = .function := by
  unfold Env.blockKind
  rw [G.kd]
  rfl
theorem sw_no {t : Option Expr} {line : Nat} {env : Env} (h : noComp v = true) : swapsWith v t line env = pure false := by
  cases v <;> first | rfl | exact nomatch h
theorem sw_of (G : Gd X Z C Γ ct) {y : Str} {py : Pos} {line : Nat} (h : swB ct v y py = false) : swapsWith v (some (.Name y py)) line X.env = pure false := by
  have hb := bk_of G
  have kl : isLoc ct y = false → (X.env.kindOf y == some NameKind.local) = false := fun hl => by
    show (X.env.scope.names.lookup y == some NameKind.local) = false
    rw [G.sc]
    unfold isLoc at hl
    split at hl
    · cases hl
    · rename_i hn
      cases q : ct.sc.names.lookup y == some NameKind.local with
      | false => rfl
      | true => exact absurd (by simpa using q) hn
  cases v with
  | ListComp e gs sc ps =>
    show (pure (X.env.blockKind == .function && X.env.kindOf y == some .local && py.line == ps.line && !(sc.names.any fun x => x.1 == y && (x.2 == .local || x.2 == .cell))) : Sem Bool) = pure false
    have h : (isLoc ct y && (py.line == ps.line) && !(sc.names.any fun x => x.1 == y && (x.2 == .local || x.2 == .cell))) = false := h
    cases hl : isLoc ct y with
    | false => rw [kl hl]; simp
    | true =>
      rw [hl] at h
      simp only [Bool.true_and] at h
      rw [Bool.and_assoc, Bool.and_assoc, h]
      simp
  | DictComp e e2 gs sc ps =>
    show (pure (X.env.blockKind == .function && X.env.kindOf y == some .local && py.line == ps.line && !(sc.names.any fun x => x.1 == y && (x.2 == .local || x.2 == .cell))) : Sem Bool) = pure false
    have h : (isLoc ct y && (py.line == ps.line) && !(sc.names.any fun x => x.1 == y && (x.2 == .local || x.2 == .cell))) = false := h
    cases hl : isLoc ct y with
    | false => rw [kl hl]; simp
    | true =>
      rw [hl] at h
      simp only [Bool.true_and] at h
      rw [Bool.and_assoc, Bool.and_assoc, h]
      simp
  | SetComp _ _ _ _ => exact nomatch h
  | _ => rfl
theorem sole_no {t : Expr} {line : Nat} {env : Env} (h : noComp v = true) : swapsWithSole [t] v line env = pure false := sw_no h
theorem sub_sole {o i : Expr} {p : Pos} {env : Env} (h : noComp v = true) : swappedStores [.Subscript o i p] v env = pure none := by
  cases v <;> rfl
theorem tup_sole {xs : List Expr} {k : Nat} {p : Pos} {env : Env} (h : noDisp v = true) : swappedStores [.Tuple xs k p] v env = pure none := by
  cases v <;> first | rfl | exact nomatch h
theorem loc_beq (G : Gd X Z C Γ ct) {y : Str} (h : isLoc ct y = true) : (X.env.kindOf y == some NameKind.local) = true := by
  have := isLoc_of G h
  show (X.env.scope.names.lookup y == some NameKind.local) = true
  rw [this]
  rfl
theorem nostar_any {xs : List Expr} (h : ∀ x ∈ xs, noStar x = true) : (xs.any fun | .Starred .. => true | _ => false) = false := by
  rw [Bool.eq_false_iff]
  intro q
  obtain ⟨e, he, q⟩ := List.any_eq_true.mp q
  have := h e he
  cases e <;> first | (simp at q; done) | (simp [noStar] at this; done)
theorem filt_lt {α β : Type} {f : α → Option β} : ∀ {l : List α}, (∃ x ∈ l, f x = none) → (l.filterMap f).length < l.length
  | [], h => by
    obtain ⟨x, hx, _⟩ := h
    simp at hx
  | y :: l, h => by
    rw [List.filterMap_cons, List.length_cons]
    split
    · exact Nat.lt_succ_of_le (List.length_filterMap_le f l)
    · rename_i b e
      obtain ⟨x, hx, hn⟩ := h
      rcases List.mem_cons.mp hx with z | z
      · rw [z, e] at hn; cases hn
      · rw [List.length_cons]
        exact Nat.succ_lt_succ (filt_lt ⟨x, z, hn⟩)
theorem swN_of (G : Gd X Z C Γ ct) {xs : List Expr} {k : Nat} {p : Pos} (h : swN ct xs = true) : swappedStores [.Tuple xs k p] v X.env = pure none := by
  cases v with
  | Tuple vs k2 p2 =>
    unfold swappedStores
    simp only [pure_bind]
    split
    · rfl
    · split
      · rfl
      · rw [if_pos ?_]
        obtain ⟨x, hx, hn⟩ := List.any_eq_true.mp h
        have := filt_lt (l := xs) (f := fun
          | .Name id pos => if X.env.kindOf id == some .local && pos.line == (xs.head?.map (·.pos.line)).getD 0 then some id else none
          | _ => none) ⟨x, hx, by
            cases x with
            | Name y py =>
              have hn : (!(isLoc ct y)) = true := hn
              have hk : (X.env.kindOf y == some NameKind.local) = false := by
                show (X.env.scope.names.lookup y == some NameKind.local) = false
                rw [G.sc]
                unfold isLoc at hn
                split at hn
                · cases hn
                · rename_i hq
                  cases q : ct.sc.names.lookup y == some NameKind.local with
                  | false => rfl
                  | true => exact absurd (by simpa using q) hq
              simp only [hk, Bool.false_and]
              rfl
            | _ => rfl⟩
        have hne := Nat.ne_of_lt this
        rw [Bool.or_eq_true]
        exact .inl (bne_iff_ne.mpr hne)
  | _ => rfl
theorem par2 (G : Gd X Z C Γ ct) {y z : Str} {py pz pt : Pos} {a b : Expr} {k k2 : Nat} {pt2 : Pos} (hy : isLoc ct y = true) (hz : isLoc ct z = true) (hl : (pz.line == py.line) = true) (hs : ∀ x ∈ [a, b], noStar x = true) (hne : y ≠ z)
    (h1 : [a, b].all (foldedForSure 8) = false) (h2 : [a, b].all (constantsAlone 8) = false) : swappedStores [.Tuple [.Name y py, .Name z pz] k pt] (.Tuple [a, b] k2 pt2) X.env = pure (some [y, z]) := by
  have hb := bk_of G
  have q1 := loc_beq G hy
  have q2 := loc_beq G hz
  have q3 := nostar_any hs
  have ql : pz.line = py.line := by simpa using hl
  have hzy : (z == y) = false := by simpa using fun e => hne e.symm
  have p1 : (Expr.Name y py).pos = py := rfl
  unfold swappedStores
  simp only [pure_bind, List.length_cons, List.length_nil, hb, q3, Bool.false_eq_true, if_false, h1, h2, List.filterMap_cons, List.filterMap_nil, List.head?_cons, Option.map_some, Option.getD_some, p1, q1, q2, ql, beq_self_eq_true, Bool.and_self, if_true,
    List.eraseDups_cons, List.eraseDups_nil, List.filter_cons, List.filter_nil, hzy, Bool.not_false, bne_self_eq_false, Bool.or_self, Bool.or_false]
  rw [if_neg (by decide)]
  exact if_neg fun z => Bool.noConfusion (q3.symm.trans z)
theorem par3 (G : Gd X Z C Γ ct) {y z w : Str} {py pz pw pt : Pos} {a b c : Expr} {k k2 : Nat} {pt2 : Pos} (hy : isLoc ct y = true) (hz : isLoc ct z = true) (hw : isLoc ct w = true) (hl : (pz.line == py.line) = true) (hl2 : (pw.line == py.line) = true) (hs : ∀ x ∈ [a, b, c], noStar x = true) (hne : y ≠ z) (hne2 : y ≠ w) (hne3 : z ≠ w)
    (h1 : [a, b, c].all (foldedForSure 8) = false) (h2 : [a, b, c].all (constantsAlone 8) = false) : swappedStores [.Tuple [.Name y py, .Name z pz, .Name w pw] k pt] (.Tuple [a, b, c] k2 pt2) X.env = pure (some [y, z, w]) := by
  have hb := bk_of G
  have q1 := loc_beq G hy
  have q2 := loc_beq G hz
  have q4 := loc_beq G hw
  have q3 := nostar_any hs
  have ql : pz.line = py.line := by simpa using hl
  have ql2 : pw.line = py.line := by simpa using hl2
  have hzy : (z == y) = false := by simpa using fun e => hne e.symm
  have hwy : (w == y) = false := by simpa using fun e => hne2 e.symm
  have hwz : (w == z) = false := by simpa using fun e => hne3 e.symm
  have p1 : (Expr.Name y py).pos = py := rfl
  unfold swappedStores
  simp only [pure_bind, List.length_cons, List.length_nil, hb, q3, Bool.false_eq_true, if_false, h1, h2, List.filterMap_cons, List.filterMap_nil, List.head?_cons, Option.map_some, Option.getD_some, p1, q1, q2, q4, ql, ql2, beq_self_eq_true, Bool.and_self, if_true,
    List.eraseDups_cons, List.eraseDups_nil, List.filter_cons, List.filter_nil, hzy, hwy, hwz, Bool.not_false, bne_self_eq_false, Bool.or_self, Bool.or_false]
  rw [if_neg (by decide)]
  exact if_neg fun z => Bool.noConfusion (q3.symm.trans z)
theorem not_of {b : Bool} (h : (!b) = true) : b = false := by
  cases b
  · rfl
  · exact nomatch h
theorem nd_ne (G : Gd X Z C Γ ct) {i j : Nat} {y z : Str} (hi : Γ.N[i]? = some y) (hj : Γ.N[j]? = some z) (h : i ≠ j) : y ≠ z := by
  rintro rfl
  have nd := G.nd
  rw [G.N] at nd
  exact h (nodup_ix nd hi hj)
theorem asg_ok (G : Gd X Z C Γ ct) {t : T} {e : E} (h : chkAsg Γ t e ct x v = true) : PS X (.Assign [x] v pos) (tS Z C (.asg t e)) := by
  cases t with
  | nm i =>
    cases x with
    | Name y py =>
      obtain ⟨h1, h4⟩ := and4 h
      obtain ⟨h1, h3⟩ := and4 h1
      obtain ⟨h1, h2⟩ := and4 h1
      obtain ⟨l1, l2⟩ := loc_of G h2
      have hi : X.N[i]? = some y := by rw [G.N]; exact of_decide_eq_true h1
      have he := (chk_ok e G h3).1
      cases hsw : swB ct v y py with
      | false => exact s_asg_nm (ps_set G.nd hi l1 he (sw_of G hsw) l2) fun _ _ _ q => q
      | true =>
        rw [hsw] at h4
        have h4 : isLcE e = true := h4
        cases e with
        | lc t it c e own =>
          simp only [chk] at h3
          split at h3
          · rename_i el tg iter ifs scope ps
            obtain ⟨g1, g6⟩ := and4 h3
            obtain ⟨g1, g5⟩ := and4 g1
            obtain ⟨g1, g4⟩ := and4 g1
            obtain ⟨g1, g3⟩ := and4 g1
            obtain ⟨g1, g2⟩ := and4 g1
            obtain ⟨b1, b2⟩ := blk_of g1
            have hsub : ∀ j ∈ tsl t, j ∈ (own.filterMap fun j => (Γ.N[j]?).map fun x => (x, j)).map (·.2) := fun j hj => by
              rw [b2]
              exact List.contains_iff_mem.mp (List.all_eq_true.mp g2 j hj)
            have GB := fun (s : Shared) (H : Hp) (C' : Addr) (cl : List (Str × Addr)) (fp : List Addr) => G.blk b1.kind s H C' cl fp
            obtain ⟨s1, s2⟩ := and4 hsw
            obtain ⟨s1, s3⟩ := and4 s1
            have ok : BlkOk X.N X.env.scope scope (own.filterMap fun j => (Γ.N[j]?).map fun x => (x, j)) := by
              rw [G.N, G.sc]; exact b1
            have he := (e_lc (pos := ps) G.calm G.nd (chkI_ok it G g3).1 ok (fun s H C' cl fp => chkT_ok t (GB s H C' cl fp) g4) (fun s H C' cl fp => chkTo_ok c (GB s H C' cl fp) g5) (fun s H C' cl fp => (chk_ok e (GB s H C' cl fp) g6).1) (chkI_ok it G g3).2 hsub).2
            rw [b2] at he
            have hp := ps_setLc (spos := pos) (py := py) (pos := ps) G.calm G.nd hi (isLoc_of G s1) (swaps_true (bk_of G) (isLoc_of G s1) (by simpa using s3) (by simpa using s2)) (chkI_ok it G g3).1 ok (fun s H C' cl fp => chkT_ok t (GB s H C' cl fp) g4) (fun s H C' cl fp => chkTo_ok c (GB s H C' cl fp) g5) (fun s H C' cl fp => (chk_ok e (GB s H C' cl fp) g6).1) (chkI_ok it G g3).2
            rw [b2] at hp
            exact s_asg_nm hp he
          · cases h3
        | _ => exact nomatch h4
    | _ => exact nomatch h
  | sub o i =>
    cases x with
    | Subscript ob ix p =>
      obtain ⟨h1, h5⟩ := and4 h
      obtain ⟨h1, h4⟩ := and4 h1
      obtain ⟨h1, h3⟩ := and4 h1
      obtain ⟨h1, h2⟩ := and4 h1
      have hu := G.hu
      exact s_asg_sub G.K (ps_asg (chk_ok e G h3).1 (pg_sub (chk_ok o G h4).1 (chk_ok i G h5).1 (set_G (by omega)) (asg_of h1)) (sole_no h2) (sub_sole h2) rfl)
    | _ => exact nomatch h
  | tup ts =>
    cases x with
    | Tuple xs k p =>
      obtain ⟨h1, h5⟩ := and4 h
      obtain ⟨h1, h4⟩ := and4 h1
      obtain ⟨h1, h3⟩ := and4 h1
      obtain ⟨h1, h2⟩ := and4 h1
      obtain ⟨l, hs⟩ := chkTs_len h5
      obtain ⟨e1, e2⟩ := starEs_of (env := X.env) hs
      have hg := chkTs_ok ts G h5
      exact s_asg_tup (n := tsLen ts) G.K (ps_asg (chk_ok e G h3).1 (PG.or (pg_tup G.calm hg (by rw [e1, l]) e2) (pg_lst G.calm hg (by rw [e1, l]) e2)) (sole_no h1) ((Bool.or_eq_true_iff.mp h2).elim tup_sole (swN_of G)) rfl) (fun ds s s' u q => asDs_len q) (fun ds s s' x => quietTs_nex h4)
    | _ => exact nomatch h
theorem asgs_chk (G : Gd X Z C Γ ct) {ts : Ts} {es : Es} {xs vs : List Expr} {k k2 : Nat} {p1 p2 : Pos} (h : chkAsgs Γ ts es ct xs vs = true) : PS X (.Assign [.Tuple xs k p1] (.Tuple vs k2 p2) pos) (tS Z C (.asgs ts es)) := by
  unfold chkAsgs at h
  split at h
  · obtain ⟨h1, h9⟩ := and4 h
    obtain ⟨h1, h8⟩ := and4 h1
    obtain ⟨h1, h7⟩ := and4 h1
    obtain ⟨h1, h6⟩ := and4 h1
    obtain ⟨h1, h5⟩ := and4 h1
    obtain ⟨h1, h4⟩ := and4 h1
    obtain ⟨h1, h3⟩ := and4 h1
    obtain ⟨h1, h2⟩ := and4 h1
    have i1 := of_decide_eq_true h1
    have i2 := of_decide_eq_true h2
    have hij := of_decide_eq_true h3
    have hs := (chkA_len h7).2
    exact s_asgs2 (ps_par G.calm G.nd (by rw [G.N]; exact i1) (by rw [G.N]; exact i2) hij (isLoc_of G h4) (isLoc_of G h5) (chkA_ok es G h7) (par2 G h4 h5 h6 hs (nd_ne G i1 i2 hij) (not_of h8) (not_of h9)) rfl)
  · obtain ⟨h1, h14⟩ := and4 h
    obtain ⟨h1, h13⟩ := and4 h1
    obtain ⟨h1, h12⟩ := and4 h1
    obtain ⟨h1, h11⟩ := and4 h1
    obtain ⟨h1, h10⟩ := and4 h1
    obtain ⟨h1, h9⟩ := and4 h1
    obtain ⟨h1, h8⟩ := and4 h1
    obtain ⟨h1, h7⟩ := and4 h1
    obtain ⟨h1, h6⟩ := and4 h1
    obtain ⟨h1, h5⟩ := and4 h1
    obtain ⟨h1, h4⟩ := and4 h1
    obtain ⟨h1, h3⟩ := and4 h1
    obtain ⟨h1, h2⟩ := and4 h1
    have i1 := of_decide_eq_true h1
    have i2 := of_decide_eq_true h2
    have i3 := of_decide_eq_true h3
    have n1 := of_decide_eq_true h4
    have n2 := of_decide_eq_true h5
    have n3 := of_decide_eq_true h6
    have hs := (chkA_len h12).2
    exact s_asgs3 (ps_par3 G.calm G.nd (by rw [G.N]; exact i1) (by rw [G.N]; exact i2) (by rw [G.N]; exact i3) n1 n2 n3 (isLoc_of G h7) (isLoc_of G h8) (isLoc_of G h9) (chkA_ok es G h12) (par3 G h7 h8 h9 h10 h11 hs (nd_ne G i1 i2 n1) (nd_ne G i1 i3 n2) (nd_ne G i2 i3 n3) (not_of h13) (not_of h14)) rfl)
  · cases h
end
mutual
theorem chkS_ok : ∀ (s : S) {X : Cx} {Z : Pm} {C : Cl} {Γ : Ga} {ct : Ct} {st : Stmt}, PassesOwn (model X.prog X.w) X.A X.env X.xe → Gd X Z C Γ ct → chkS Γ s ct st = true → PS X st (tS Z C s)
  | .asg t e, X, Z, C, Γ, ct, st, hp, G, h => by
    simp only [chkS] at h
    split at h
    · exact asg_ok G h
    · cases h
  | .asgs ts es, X, Z, C, Γ, ct, st, hp, G, h => by
    simp only [chkS] at h
    split at h
    · exact asgs_chk G h
    · cases h
  | .ex e, X, Z, C, Γ, ct, st, hp, G, h => by
    simp only [chkS] at h
    split at h
    · obtain ⟨h1, h2⟩ := and4 h
      exact s_ex (chk_ok e G h2).1 (sw_no h1)
    · cases h
  | .ret e, X, Z, C, Γ, ct, st, hp, G, h => by
    simp only [chkS] at h
    split at h
    · exact s_ret (chk_ok e G h).1
    · cases h
  | .ret0, X, Z, C, Γ, ct, st, hp, G, h => by
    simp only [chkS] at h
    split at h
    · exact s_ret0
    · cases h
  | .ife t a b, X, Z, C, Γ, ct, st, hp, G, h => by
    simp only [chkS] at h
    split at h
    · obtain ⟨h1, h3⟩ := and4 h
      obtain ⟨h1, h2⟩ := and4 h1
      exact s_ife (chk_ok t G h1).2 (chkSs_ok a hp G h2) (chkSs_ok b hp G h3)
    · cases h
  | .whl t b, X, Z, C, Γ, ct, st, hp, G, h => by
    simp only [chkS] at h
    split at h
    · obtain ⟨h1, h2⟩ := and4 h
      exact s_whl hp (chk_ok t G h1).2 (chkSs_ok b hp G h2)
    · cases h
  | .fr t it b, X, Z, C, Γ, ct, st, hp, G, h => by
    simp only [chkS] at h
    split at h
    · obtain ⟨h1, h3⟩ := and4 h
      obtain ⟨h1, h2⟩ := and4 h1
      exact s_for hp G.calm (chkI_ok it G h1).1 (chkT_ok t G h2) (chkSs_ok b hp G h3) (chkI_ok it G h1).2
    · cases h
  | .rse c es, X, Z, C, Γ, ct, st, hp, G, h => nomatch h
  | .brk, X, Z, C, Γ, ct, st, hp, G, h => by
    simp only [chkS] at h
    split at h
    · exact s_brk
    · cases h
  | .cnt, X, Z, C, Γ, ct, st, hp, G, h => by
    simp only [chkS] at h
    split at h
    · exact s_cnt
    · cases h
  | .pss, X, Z, C, Γ, ct, st, hp, G, h => by
    simp only [chkS] at h
    split at h
    · exact s_pss
    · exact s_doc
    · cases h
  | .nvr, X, Z, C, Γ, ct, st, hp, G, h => s_nvr
theorem chkSs_ok : ∀ (s : Ss) {X : Cx} {Z : Pm} {C : Cl} {Γ : Ga} {ct : Ct} {st : List Stmt}, PassesOwn (model X.prog X.w) X.A X.env X.xe → Gd X Z C Γ ct → chkSs Γ s ct st = true → PSs X st (tSs Z C s)
  | .nil, X, Z, C, Γ, ct, [], hp, G, h => ss_nil
  | .nil, X, Z, C, Γ, ct, _ :: _, hp, G, h => nomatch h
  | .cons a r, X, Z, C, Γ, ct, [], hp, G, h => nomatch h
  | .cons a r, X, Z, C, Γ, ct, x :: ys, hp, G, h => by
    obtain ⟨h1, h2⟩ := and4 h
    exact ss_cons (chkS_ok a hp G h1) (chkSs_ok r hp G h2)
end
end Pv

set_option Elab.async false
set_option linter.all false
set_option maxRecDepth 100000
namespace Pv
open PySem L2 PySem.Spec PyProof.Rows
/-- the first cells alone -/
def Gh.tk (g : Gh) (n : Nat) : Gh := { g with cp := g.cp.take n }
section
variable {Z : Pm} {K : PySem.W.Frag} {C : Cl} {g g' : Gh} {H H' : Hp} {s : St} {v : V} {d : D}
theorem SimC.tk {ce : List Cel} {ob : List Ob} (m : SimC g ce ob H) (n : Nat) : SimC (g.tk n) (ce.take n) ob H where
  ex := m.ex
  cn := by
    show (g.cp.take n).length = _
    rw [List.length_take, List.length_take, m.cn]
  cel := fun k x a e1 e2 => by
    have e2 : (g.cp.take n)[k]? = some a := e2
    rw [List.getElem?_take] at e1 e2
    split at e1
    · rename_i hk
      rw [if_pos hk] at e2
      have w := m.cel k x a e1 e2
      cases x with
      | ow _ => exact w
      | he _ => exact w
      | fz _ => exact w
    · cases e1
  cnd := m.cnd.sublist (List.take_sublist _ _)
  ρF := m.ρF
  ρc := fun a z => by
    have z : a ∈ g.ρ := z
    rw [m.ob.2] at z; cases z
  ob := m.ob
theorem Stp.tk {n : Nat} (t : Stp g H g' H') (h : g.cp.length ≤ n) : Stp g H (g'.tk n) H' where
  ρ := t.ρ
  F := t.F
  cp := fun i a e => by
    show (g'.cp.take n)[i]? = some a
    have := (List.getElem?_eq_some_iff.mp e).1
    rw [List.getElem?_take, if_pos (by omega)]
    exact t.cp i a e
  fr := t.fr
  th := t.th
  nF := t.nF
  nc := fun a ha => t.nc a (List.mem_of_mem_take ha)
  nρ := t.nρ
theorem op_tk {p : P} {n : Nat} (o : OpR' K g H v p) (hp : ∀ k, p ≠ .pc k) : OpR' K (g.tk n) H v p := by
  cases o with
  | va r => exact .va r
  | fr c h m r hF hc hρ => exact .fr c h m r hF (fun z => hc (List.mem_of_mem_take z)) hρ
  | ce h => exact absurd rfl (hp _)
  | bo b =>
    refine .bo ?_
    cases b with
    | rep r => exact .rep r
    | con c h r hF hc hρ => exact .con c h r hF (fun z => hc (List.mem_of_mem_take z)) hρ
    | wr a b c => exact .wr a b c
    | ws a b c => exact .ws a b c
/-- a def's end -/
theorem run_end {F : Fn} {sl : List Slot} {ce : List Cel} {ob : List Ob} {Q : VK} {E : XK} (hn : g.cp.length = ce.length) (h : PoF Z g H (runF C F sl ce ob) Q E) :
    PoS ⟨Z.K, fun cls dx _ H => E cls dx H, Z.ec⟩ g H (exs C F.body ⟨sl ++ List.replicate (F.nl - F.np) .un, ce, ob⟩) { nx := fun _ H' => Q .non H', rt := Q } := by
  unfold runF at h
  cases q : exs C F.body ⟨sl ++ List.replicate (F.nl - F.np) .un, ce, ob⟩ with
  | no => rw [q] at h; exact h
  | ex x s =>
    rw [q] at h
    intro g' σ' H' cls dx t m xr fx
    refine h (g'.tk ce.length) H' cls dx (t.tk (by omega)) (m.c.tk _) ?_ fx
    cases xr with
    | mk h1 h2 h3 h4 h5 h6 h7 => exact .mk h1 h2 h3 h4 h5 (fun z => h6 (List.mem_of_mem_take z)) h7
    | mk0 h1 => exact .mk0 h1
  | ok fl s =>
    rw [q] at h
    cases fl with
    | nx =>
      intro g' σ' H' t m
      exact h (g'.tk ce.length) H' .non (t.tk (by omega)) (m.c.tk _) (.va .non) trivial
    | bk => exact h.elim
    | ct => exact h.elim
    | rt p =>
      cases p with
      | pv d f =>
        intro g' σ' H' v t m o fi
        exact h (g'.tk ce.length) H' v (t.tk (by omega)) (m.c.tk _) (op_tk o fun _ z => nomatch z) fi
      | pb d =>
        simp only at h
        split at h
        · rename_i sc
          intro g' σ' H' v t m o fi
          refine h (g'.tk ce.length) H' v (t.tk (by omega)) (m.c.tk _) (.va ?_) trivial
          cases o with
          | bo b =>
            cases b with
            | rep r => exact r.scal sc
            | con c _ _ _ _ _ => exact (isC_scal c sc).elim
            | wr _ _ _ => exact nomatch sc
            | ws _ _ _ => exact nomatch sc
        · exact h.elim
      | pc k =>
        simp only at h
        intro g' σ' H' v t m o fi
        cases o with
        | @ce a k hk =>
          cases hc : s.ce[k]? with
          | none => rw [hc] at h; exact h.elim
          | some c =>
            rw [hc] at h
            simp only at h
            have w := m.c.cel k c a hc hk
            have hlt : k < s.ce.length := (List.getElem?_eq_some_iff.mp hc).1
            by_cases hkn : k < ce.length
            · rw [if_pos hkn] at h
              have go : ∀ (o : HO) (x : D), c.d = x → isC x = true → g'.F a = none → H' a = some o → RepO g'.ρ g'.F o x → Q (.ref a) H' := fun o x ex ic hF ho r => by
                subst ex
                have t' := t.fz (o := o) hF (.inr (List.mem_of_getElem? hk))
                have c' := m.c.fz (ce' := s.ce.set k (.fz c.d)) ho ic r hF (by simp) fun j y b e1 e2 => by
                  by_cases q : k = j
                  · subst q
                    rw [hk] at e2; cases e2
                    rw [List.getElem?_set_self hlt] at e1
                    cases e1
                    exact .inr ⟨rfl, rfl⟩
                  · rw [List.getElem?_set_ne q] at e1
                    refine .inl ⟨fun z => ?_, e1⟩
                    subst z
                    exact q (cp_inj m.c hk e2)
                exact h ((g'.fz a o).tk ce.length) H' (.ref a) (t'.tk (by omega)) (c'.tk _) (.va (.con ic (show upd g'.F a o a = some o from upd_same) (r.mono (.refl _) (fz_F hF)))) trivial
              cases c with
              | ow x =>
                obtain ⟨w1, w2, o, w3, _, w5⟩ := w
                exact go o x rfl w1 w2 w3 w5
              | he x =>
                obtain ⟨w1, w2, o, w3, _, w5⟩ := w
                exact go o x rfl w1 w2 w3 w5
              | fz x =>
                have es : s.ce.set k (.fz (Cel.fz x).d) = s.ce := by
                  obtain ⟨_, f⟩ := List.getElem?_eq_some_iff.mp hc
                  show s.ce.set k (.fz x) = s.ce
                  rw [← f]
                  exact List.set_getElem_self _
                rw [es] at h
                exact h (g'.tk ce.length) H' (.ref a) (t.tk (by omega)) (m.c.tk _) (.va w) trivial
            · rw [if_neg hkn] at h
              have na : a ∉ g'.cp.take ce.length := fun z => by
                obtain ⟨j, hj⟩ := List.getElem?_of_mem z
                rw [List.getElem?_take] at hj
                split at hj
                · rename_i hjn
                  have := cp_inj m.c hk hj
                  omega
                · cases hj
              cases c with
              | he _ => exact h.elim
              | fz x => exact h (g'.tk ce.length) H' (.ref a) (t.tk (by omega)) (m.c.tk _) (.va w) trivial
              | ow x =>
                obtain ⟨w1, w2, o, w3, w4, w5⟩ := w
                refine h (g'.tk ce.length) H' (.ref a) (t.tk (by omega)) (m.c.tk _) (.fr w1 w3 w4 w5 w2 na ?_) fun b eb => ?_
                · show a ∉ g'.ρ
                  rw [m.c.ob.2]
                  simp
                · cases eb
                  rcases t.nc a (List.mem_of_getElem? hk) with z | z
                  · obtain ⟨j, hj⟩ := List.getElem?_of_mem z
                    have h1 := (List.getElem?_eq_some_iff.mp hj).1
                    have := cp_inj m.c hk (t.cp _ _ hj)
                    omega
                  · exact z
end
/-- the static side of the defs -/
structure Tab where
  T : Nat → Option Fn
  G : Nat → Option D
  nm : Nat → Str
  st : Nat → Stmt
  N : Nat → List Str
  ps : Nat → List Str
  gn : Nat → Option Str
def Tab.ga (B : Tab) (f : Nat) : Ga := ⟨B.N f, B.gn, fun g => match B.T g with
  | some F => some (B.nm g, F.np)
  | none => none⟩
def Tab.C (B : Tab) (k : Nat) : Cl := ⟨fnD B.T B.G k, moD B.T, B.G⟩
structure Tab.Ok (B : Tab) : Prop where
  sc : ∀ f F, B.T f = some F → FnScope (B.N f) (B.ps f) (defScope (B.st f))
  np : ∀ f F, B.T f = some F → F.np = (B.ps f).length ∧ F.nl = (B.N f).length
  ck : ∀ f F, B.T f = some F → chkSs (B.ga f) F.body ⟨defScope (B.st f), fun _ => true⟩ (defBody (B.st f)) = true
/-- the module's side -/
structure Tab.At (B : Tab) (K : PySem.W.Frag) (mg : Str → Option Value) (fa : Nat → Addr) (fd : Nat → FuncData) : Prop where
  fn : ∀ f F, B.T f = some F → mg (B.nm f) = some (.ref (fa f)) ∧ Fun K (B.nm f) (B.nm f) (B.st f) (fa f) (fd f) ∧ Binds K (fd f) (B.ps f) []
  gl : ∀ n y, B.gn n = some y → ∃ v u d, B.G n = some d ∧ mg y = some u ∧ RelV v u ∧ ∀ g H, Bo K g H v d
  bt : ∀ x ∈ btNs, mg x = none
theorem start_eq (N : List Str) (vs : List V) (sl : List Slot) (K : PySem.W.Frag) (g : Gh) (H : Hp) (ce : List Cel) (ob : List Ob) (hl : vs.length ≤ N.length) (m : Sim K g ⟨sl, ce, ob⟩ (vs.map some) H) :
    Sim K g ⟨sl ++ List.replicate (N.length - vs.length) .un, ce, ob⟩ (start N vs) H where
  c := m.c
  len := by
    have := m.len
    show (sl ++ _).length = (vs.map some ++ _).length
    rw [List.length_append, List.length_append, List.length_replicate, List.length_replicate]
    have m' : sl.length = (vs.map some).length := this
    omega
  slot := fun i x e => by
    have e : (sl ++ List.replicate (N.length - vs.length) Slot.un)[i]? = some x := e
    have m' : sl.length = (vs.map some).length := m.len
    show SlotOk K g H x (vs.map some ++ List.replicate (N.length - vs.length) none)[i]?
    by_cases q : i < sl.length
    · rw [List.getElem?_append_left q] at e
      rw [List.getElem?_append_left (by omega)]
      exact m.slot i x e
    · rw [List.getElem?_append_right (by omega)] at e ⊢
      rw [List.getElem?_replicate] at e ⊢
      split at e
      · cases e
        rename_i hq
        rw [if_pos (by omega)]
        exact ⟨none, rfl⟩
      · cases e
/-- every def does what Pv says -/
theorem Tab.fns {B : Tab} (ok : B.Ok) {P : Program} {w : World} {K : PySem.W.Frag} {mg : Str → Option Value} {base : Heap} {fa : Nat → Addr} {fd : Nat → FuncData} (A : B.At K mg fa fd) (ec : Nat → Option (Value × List Str)) (W : WX) : ∀ (k f : Nat) (F : Fn), B.T f = some F →
    FnOk P w K mg base (L2.CX P w) k (fa f) (fd f) (B.ps f) (spF ⟨K, W, ec⟩ (B.C k) f F.np) := by
  intro k
  induction k with
  | zero =>
    intro f F hF
    refine ⟨?_, ?_⟩
    · intro vs H Q E h
      rw [h.1]
      exact (ok.np f F hF).1
    · intro A' outer s H args us vs Q E hr e0 hb r hsp
      obtain ⟨_, g, s', _, h⟩ := hsp
      exact h.elim
  | succ k ih =>
    intro f F hF
    obtain ⟨h1, h2, h3⟩ := A.fn f F hF
    obtain ⟨np, nl⟩ := ok.np f F hF
    have S := ok.sc f F hF
    refine Fun.okX h2 S (fun vs H Q E h => by rw [h.1]; exact np) fun cdv A' outer s H vs Q E hr h => ?_
    obtain ⟨hl, g, s', m, h⟩ := h
    have hlen : vs.length ≤ (B.N f).length := by
      have := congrArg List.length S.pre
      rw [List.length_take] at this
      omega
    have hsl : s'.sl.length = F.np := by
      have := m.len
      rw [List.length_map] at this
      omega
    have hrun : (B.C (k + 1)).fn f s'.sl s'.ce s'.ob = runF (B.C k) F s'.sl s'.ce s'.ob := by
      show fnD B.T B.G (k + 1) f s'.sl s'.ce s'.ob = _
      simp only [fnD, hF, hsl, if_true]
      rfl
    rw [hrun] at h
    have he := run_end m.c.cn h
    have hm : Sim K g ⟨s'.sl ++ List.replicate (F.nl - F.np) .un, s'.ce, s'.ob⟩ (start (B.N f) vs) H := by
      have := start_eq (B.N f) vs s'.sl K g H s'.ce s'.ob hlen m
      rw [nl, ← hl]
      exact this
    refine ⟨tSs ⟨K, fun cls dx _ H => E cls dx H, ec⟩ (B.C k) F.body, ?_, g, _, hm, he⟩
    refine chkSs_ok F.body (passes_of rfl) (Γ := B.ga f) (ct := ⟨defScope (B.st f), fun _ => true⟩) ⟨rfl, S.nd, rfl, rfl, ?_, S.kind, rfl, rfl, takes_of rfl rfl rfl rfl, A.bt, A.gl, ?_⟩ (ok.ck f F hF)
    · have := hr.un
      show (A'.deeper _).units + 65 < cLine
      omega
    · intro f2 y np2 e
      have e : (match B.T f2 with | some F => some (B.nm f2, F.np) | none => none) = some (y, np2) := e
      cases q : B.T f2 with
      | none => rw [q] at e; cases e
      | some F2 =>
        rw [q] at e
        cases e
        obtain ⟨i1, i2, i3⟩ := A.fn f2 F2 q
        exact ⟨fa f2, fd f2, B.ps f2, k, i1, i2.kp, i3, hr, ih f2 F2 q⟩
end Pv

set_option Elab.async false
set_option linter.all false
set_option maxRecDepth 100000
set_option maxHeartbeats 0
namespace Lk58
open PySem Pv
def topS (i : Nat) : Stmt := PySem.Challenge.pw_facesholes_k58_known_births.main.body.getD i (.Pass ⟨0, 0, 0, 0⟩)
/-- is_integer -/
def f0 : Fn := ⟨1, 1, [true], (.cons (.ret (.and (.bi .isi (.cons (.loc 0) (.cons (.lit (.ty "int")) .nil))) (.not (.bi .isi (.cons (.loc 0) (.cons (.lit (.ty "bool")) .nil)))))) .nil)⟩
/-- is_between -/
def f1 : Fn := ⟨3, 3, [true, true, true], (.cons (.ret (.and (.call 0 (.cons (.loc 0) .nil)) (.chn .LtE .LtE (.loc 1) (.loc 0) (.loc 2)))) .nil)⟩
/-- is_lot -/
def f2 : Fn := ⟨2, 5, [true, true], (.cons (.ife (.or (.not (.bi .isi (.cons (.loc 0) (.cons (.lit (.ty "tuple")) .nil)))) (.or (.cmp .Eq (.loc 0) (.tup .nil)) (.not (.bi .all (.cons (.lc (.nm 4) (.e (.loc 0)) .no (.call 1 (.cons (.loc 4) (.cons (.lit (.int 0)) (.cons (.bin .Sub (.loc 1) (.lit (.int 1))) .nil)))) [4]) .nil))))) (.cons (.ret (.lit (.bl false))) .nil) .nil) (.cons (.ret (.bi .all (.cons (.lc (.tup (.cons (.nm 2) (.cons (.nm 3) .nil))) (.zip (.loc 0) (.slc (.loc 0) (.so (.lit (.int 1))) .no)) .no (.cmp .Lt (.loc 2) (.loc 3)) [2, 3]) .nil))) .nil))⟩
/-- all_but_one -/
def f3 : Fn := ⟨1, 2, [true], (.cons (.ret (.lc (.nm 1) (.rng (.cons (.bi .len (.cons (.loc 0) .nil)) .nil)) .no (.bin .Add (.slc (.loc 0) .no (.so (.loc 1))) (.slc (.loc 0) (.so (.bin .Add (.loc 1) (.lit (.int 1)))) .no)) [1])) .nil)⟩
/-- can_come -/
def f4 : Fn := ⟨2, 3, [true, true], (.cons (.ife (.or (.not (.call 2 (.cons (.loc 0) (.cons (.gl 0) .nil)))) (.cmp .In (.loc 0) (.loc 1))) (.cons (.ret (.lit (.bl false))) .nil) .nil) (.cons (.ret (.or (.cmp .Eq (.bi .len (.cons (.loc 0) .nil)) (.lit (.int 1))) (.bi .all (.cons (.lc (.nm 2) (.e (.call 3 (.cons (.loc 0) .nil))) .no (.cmp .In (.loc 2) (.loc 1)) [2]) .nil)))) .nil))⟩
/-- check_order -/
def f5 : Fn := ⟨1, 4, [true], (.cons (.ife (.or (.not (.bi .isi (.cons (.loc 0) (.cons (.lit (.ty "tuple")) .nil)))) (.cmp .Eq (.loc 0) (.tup .nil))) (.cons .nvr .nil) .nil) (.cons (.asg (.nm 1) .dnw) (.cons (.fr (.tup (.cons (.nm 2) (.cons (.nm 3) .nil))) (.enum (.loc 0)) (.cons (.ife (.or (.cmp .Eq (.loc 2) (.gl 1)) (.not (.call 4 (.cons (.loc 3) (.cons (.loc 1) .nil))))) (.cons .nvr .nil) .nil) (.cons (.asg (.sub (.loc 1) (.loc 3)) (.lit (.bl true))) .nil))) .nil)))⟩
/-- edges_told -/
def f6 : Fn := ⟨1, 5, [true], (.cons (.asg (.nm 1) (.dc (.tup (.cons (.nm 3) (.cons (.nm 2) .nil))) (.enum (.loc 0)) .no (.loc 2) (.bin .Add (.loc 3) (.lit (.int 1))) [3, 2])) (.cons (.asg (.sub (.loc 1) (.tup .nil)) (.lit (.int 0))) (.cons (.ret (.lc (.nm 2) (.e (.loc 0)) .no (.bi .sum (.cons (.lc (.nm 4) (.e (.call 3 (.cons (.loc 2) .nil))) .no (.bin .LShift (.lit (.int 1)) (.idx (.loc 1) (.loc 4))) [4]) .nil)) [2])) .nil)))⟩
/-- made_and_filled -/
def f7 : Fn := ⟨1, 6, [true], (.cons (.asgs (.cons (.nm 1) (.cons (.nm 2) (.cons (.nm 3) .nil))) (.cons .dnw (.cons (.lst .nil) (.cons (.lst .nil) .nil)))) (.cons (.fr (.tup (.cons (.nm 4) (.cons (.nm 5) .nil))) (.enum (.call 6 (.cons (.loc 0) .nil))) (.cons (.whl (.and (.cmp .Gt (.loc 5) (.lit (.int 0))) (.cmp .In (.mth .bitlen (.loc 5) .nil) (.loc 1))) (.cons (.asg (.nm 5) (.bin .BitXor (.loc 5) (.idx (.loc 1) (.mth .bitlen (.loc 5) .nil)))) .nil)) (.cons (.ife (.cmp .Eq (.loc 5) (.lit (.int 0))) (.cons (.ex (.mth .append (.loc 2) (.cons (.loc 4) .nil))) .nil) (.cons (.asg (.sub (.loc 1) (.mth .bitlen (.loc 5) .nil)) (.loc 5)) (.cons (.ex (.mth .append (.loc 3) (.cons (.tup (.cons (.bin .Sub (.mth .bitlen (.loc 5) .nil) (.lit (.int 2))) (.cons (.loc 4) .nil))) .nil))) .nil))) .nil))) (.cons (.ret (.tup (.cons (.loc 2) (.cons (.bi .sorted (.cons (.slc (.loc 3) (.so (.lit (.int 1))) .no) .nil)) .nil)))) .nil)))⟩
/-- births -/
def f8 : Fn := ⟨1, 1, [true], (.cons (.ex (.call 5 (.cons (.loc 0) .nil))) (.cons (.ret (.bi .tuple (.cons (.idx (.call 7 (.cons (.loc 0) .nil)) (.lit (.int 1))) .nil))) .nil))⟩
/-- staying -/
def f9 : Fn := ⟨1, 6, [true], (.cons (.ex (.call 5 (.cons (.loc 0) .nil))) (.cons (.asg (.tup (.cons (.nm 2) (.cons (.nm 3) .nil))) (.call 7 (.cons (.loc 0) .nil))) (.cons (.asg (.nm 1) (.lc (.nm 4) (.e (.loc 3)) .no (.idx (.loc 4) (.lit (.int 0))) [4])) (.cons (.ret (.bi .tuple (.cons (.lc (.nm 5) (.e (.loc 2)) (.so (.cmp .NotIn (.loc 5) (.loc 1))) (.loc 5) [5]) .nil))) .nil))))⟩
/-- _law_cask_of -/
def f10 : Fn := ⟨2, 6, [true, true], (.cons (.asgs (.cons (.nm 2) (.cons (.nm 3) .nil)) (.cons (.ife (.cmp .Lt (.loc 1) (.bi .len (.cons (.loc 0) .nil))) (.idx (.loc 0) (.loc 1)) (.lit (.int 0))) (.cons (.bin .Add (.lit (.int 11003)) (.bin .Mult (.lit (.int 80021)) (.loc 1))) .nil))) (.cons (.fr (.tup (.cons (.nm 4) (.cons (.nm 5) .nil))) (.enum (.slc (.loc 0) .no (.so (.lit (.int 8))))) (.cons (.asg (.nm 3) (.bin .Mod (.bi .int (.cons (.bin .Add (.bin .Mult (.loc 3) (.bin .Add (.lit (.int 12011)) (.bin .Mult (.lit (.int 66)) (.loc 4)))) (.bin .Mult (.lit (.int 29)) (.loc 5))) .nil)) (.lit (.int 2147482763)))) .nil)) (.cons (.ret (.lst (.cons (.ife (.or (.cmp .Lt (.loc 2) (.lit (.int 0))) (.cmp .GtE (.loc 2) (.bin .Pow (.lit (.int 10)) (.lit (.int 15))))) (.bi .abs (.cons (.loc 2) .nil)) (.lit (.int 0))) (.cons (.bin .Mod (.bi .int (.cons (.bin .Add (.loc 3) (.bin .Mult (.lit (.int 27011)) (.loc 2))) .nil)) (.lit (.int 2147482763))) (.cons (.lit (.int 0)) .nil))))) .nil)))⟩
/-- _law_tap -/
def f11 : Fn := ⟨2, 4, [false, true], (.cons (.ife (.cmp .Gt (.idx (.loc 0) (.lit (.int 0))) (.lit (.int 0))) (.cons (.asg (.tup (.cons (.sub (.loc 0) (.lit (.int 0))) (.cons (.nm 3) .nil))) (.bi .divmod (.cons (.idx (.loc 0) (.lit (.int 0))) (.cons (.loc 1) .nil)))) (.cons (.ret (.loc 3)) .nil)) .nil) (.cons (.asg (.sub (.loc 0) (.lit (.int 2))) (.bin .Add (.idx (.loc 0) (.lit (.int 2))) (.lit (.int 1)))) (.cons (.asg (.nm 2) (.bin .Mod (.bi .int (.cons (.bin .Add (.idx (.loc 0) (.lit (.int 1))) (.bin .Mult (.lit (.int 47017)) (.idx (.loc 0) (.lit (.int 2))))) .nil)) (.lit (.int 2147482763)))) (.cons (.asg (.sub (.loc 0) (.lit (.int 1))) (.bin .Mod (.bi .int (.cons (.bin .Add (.bin .Add (.bin .Mult (.loc 2) (.bin .Add (.bin .Mod (.bi .int (.cons (.loc 2) .nil)) (.lit (.int 12007))) (.lit (.int 70001)))) (.bin .Mult (.lit (.int 71)) (.idx (.loc 0) (.lit (.int 2))))) (.lit (.int 31))) .nil)) (.lit (.int 2147482763)))) (.cons (.ret (.bin .Mod (.bin .FloorDiv (.bi .int (.cons (.idx (.loc 0) (.lit (.int 1))) .nil)) (.lit (.int 197))) (.loc 1))) .nil)))))⟩
/-- _law_subsets -/
def f12 : Fn := ⟨1, 4, [true], (.cons (.asg (.nm 1) (.lst (.cons (.tup .nil) .nil))) (.cons (.fr (.nm 2) (.e (.loc 0)) (.cons (.asg (.nm 1) (.bin .Add (.loc 1) (.lc (.nm 3) (.e (.loc 1)) .no (.bin .Add (.loc 3) (.tup (.cons (.loc 2) .nil))) [3]))) .nil)) (.cons (.ret (.slc (.loc 1) (.so (.lit (.int 1))) .no)) .nil)))⟩
/-- _law_ties -/
def f13 : Fn := ⟨1, 2, [true], (.cons (.ret (.lc (.nm 1) (.rng (.cons (.bin .Sub (.loc 0) (.lit (.int 1))) .nil)) .no (.tup (.cons (.loc 1) (.cons (.bin .Add (.loc 1) (.lit (.int 1))) .nil))) [1])) .nil)⟩
/-- _law_known_right -/
def f14 : Fn := ⟨1, 8, [true], (.cons (.asg (.nm 1) (.lc (.nm 7) (.rng (.cons (.loc 0) .nil)) .no (.tup (.cons (.loc 7) .nil)) [7])) (.cons (.asgs (.cons (.nm 5) (.cons (.nm 6) .nil)) (.cons (.bi .tuple (.cons (.bin .Add (.loc 1) (.call 13 (.cons (.loc 0) .nil))) .nil)) (.cons (.bi .tuple (.cons (.bin .Add (.bin .Add (.loc 1) (.call 13 (.cons (.loc 0) .nil))) (.lst (.cons (.tup (.cons (.lit (.int 0)) (.cons (.bin .Sub (.loc 0) (.lit (.int 1))) .nil))) .nil))) .nil)) .nil))) (.cons (.asg (.nm 2) (.bi .tuple (.cons (.lc (.nm 7) (.rng (.cons (.bin .Sub (.loc 0) (.lit (.int 1))) .nil)) .no (.tup (.cons (.bin .Add (.loc 7) (.lit (.int 1))) (.cons (.bin .Add (.loc 0) (.loc 7)) .nil))) [7]) .nil))) (.cons (.ife (.cmp .NotEq (.lst (.cons (.call 8 (.cons (.bi .tuple (.cons (.loc 1) .nil)) .nil)) (.cons (.call 9 (.cons (.bi .tuple (.cons (.loc 1) .nil)) .nil)) .nil))) (.lst (.cons (.tup .nil) (.cons (.rg2 true (.lit (.int 1)) (.loc 0)) .nil)))) (.cons (.ret (.lit (.bl false))) .nil) .nil) (.cons (.ife (.cmp .NotEq (.lst (.cons (.call 8 (.cons (.loc 5) .nil)) (.cons (.call 9 (.cons (.loc 5) .nil)) (.cons (.call 8 (.cons (.loc 6) .nil)) (.cons (.call 9 (.cons (.loc 6) .nil)) .nil))))) (.lst (.cons (.loc 2) (.cons (.tup .nil) (.cons (.loc 2) (.cons (.tup (.cons (.bin .Sub (.bin .Mult (.lit (.int 2)) (.loc 0)) (.lit (.int 1))) .nil)) .nil)))))) (.cons (.ret (.lit (.bl false))) .nil) .nil) (.cons (.asg (.nm 3) (.bi .tuple (.cons (.bin .Add (.loc 1) (.rev (.call 13 (.cons (.loc 0) .nil)))) .nil))) (.cons (.ife (.cmp .NotEq (.call 8 (.cons (.loc 3) .nil)) (.bi .tuple (.cons (.lc (.nm 7) (.rng (.cons (.bin .Sub (.loc 0) (.lit (.int 1))) .nil)) .no (.tup (.cons (.bin .Add (.loc 7) (.lit (.int 1))) (.cons (.bin .Sub (.bin .Sub (.bin .Mult (.lit (.int 2)) (.loc 0)) (.lit (.int 2))) (.loc 7)) .nil))) [7]) .nil))) (.cons (.ret (.lit (.bl false))) .nil) .nil) (.cons (.asg (.nm 4) (.bi .tuple (.cons (.lst (.cons (.tup (.cons (.lit (.int 0)) .nil)) (.cons (.tup (.cons (.lit (.int 1)) .nil)) (.cons (.tup (.cons (.lit (.int 0)) (.cons (.lit (.int 1)) .nil))) (.cons (.tup (.cons (.lit (.int 2)) .nil)) (.cons (.tup (.cons (.lit (.int 1)) (.cons (.lit (.int 2)) .nil))) (.cons (.tup (.cons (.lit (.int 0)) (.cons (.lit (.int 2)) .nil))) .nil))))))) .nil))) (.cons (.ret (.cmp .Eq (.lst (.cons (.call 8 (.cons (.loc 4) .nil)) (.cons (.call 9 (.cons (.loc 4) .nil)) .nil))) (.lst (.cons (.tup (.cons (.tup (.cons (.lit (.int 1)) (.cons (.lit (.int 2)) .nil))) (.cons (.tup (.cons (.lit (.int 3)) (.cons (.lit (.int 4)) .nil))) .nil))) (.cons (.tup (.cons (.lit (.int 5)) .nil)) .nil))))) .nil)))))))))⟩
/-- _law_full_right -/
def f15 : Fn := ⟨1, 4, [true], (.cons (.asg (.nm 1) (.lst .nil)) (.cons (.fr (.nm 2) (.rng (.cons (.lit (.int 1)) (.cons (.bin .Add (.loc 0) (.lit (.int 1))) .nil))) (.cons (.asg (.nm 1) (.bin .Add (.loc 1) (.bi .sorted (.cons (.lc (.nm 3) (.e (.call 12 (.cons (.rg1 true (.loc 0)) .nil))) (.so (.cmp .Eq (.bi .len (.cons (.loc 3) .nil)) (.loc 2))) (.loc 3) [3]) .nil)))) .nil)) (.cons (.ife (.or (.cmp .NotEq (.call 9 (.cons (.bi .tuple (.cons (.loc 1) .nil)) .nil)) (.tup .nil)) (.cmp .NotEq (.bin .Add (.bin .Mult (.bi .len (.cons (.call 8 (.cons (.bi .tuple (.cons (.loc 1) .nil)) .nil)) .nil)) (.lit (.int 2))) (.lit (.int 1))) (.bi .len (.cons (.loc 1) .nil)))) (.cons (.ret (.lit (.bl false))) .nil) .nil) (.cons (.ret (.cmp .Eq (.call 9 (.cons (.bi .tuple (.cons (.slc (.loc 1) .no (.so (.neg (.lit (.int 1))))) .nil)) .nil)) (.tup (.cons (.bin .Sub (.bi .len (.cons (.loc 1) .nil)) (.lit (.int 2))) .nil)))) .nil))))⟩
/-- _law_right -/
def f16 : Fn := ⟨1, 8, [false], (.cons (.asg (.tup (.cons (.nm 4) (.cons (.nm 5) .nil))) (.tup (.cons (.bin .Add (.lit (.int 3)) (.call 11 (.cons (.loc 0) (.cons (.lit (.int 6)) .nil)))) (.cons (.call 11 (.cons (.loc 0) (.cons (.lit (.int 5)) .nil))) .nil)))) (.cons (.ife (.or (.not (.call 14 (.cons (.loc 4) .nil))) (.not (.call 15 (.cons (.bin .Add (.lit (.int 2)) (.call 11 (.cons (.loc 0) (.cons (.lit (.int 5)) .nil)))) .nil)))) (.cons (.ret (.lit (.bl false))) .nil) .nil) (.cons (.asg (.nm 1) (.bi .tuple (.cons (.lst (.cons (.tup (.cons (.lit (.int 0)) .nil)) (.cons (.tup (.cons (.lit (.int 1)) .nil)) (.cons (.tup (.cons (.lit (.int 2)) .nil)) (.cons (.tup (.cons (.lit (.int 0)) (.cons (.lit (.int 1)) .nil))) (.cons (.tup (.cons (.lit (.int 1)) (.cons (.lit (.int 2)) .nil))) (.cons (.tup (.cons (.lit (.int 0)) (.cons (.lit (.int 2)) .nil))) (.cons (.tup (.cons (.lit (.int 3)) .nil)) (.cons (.tup (.cons (.lit (.int 4)) .nil)) (.cons (.tup (.cons (.lit (.int 0)) (.cons (.lit (.int 3)) .nil))) (.cons (.tup (.cons (.lit (.int 3)) (.cons (.lit (.int 4)) .nil))) (.cons (.tup (.cons (.lit (.int 0)) (.cons (.lit (.int 4)) .nil))) (.cons (.tup (.cons (.lit (.int 0)) (.cons (.lit (.int 1)) (.cons (.lit (.int 2)) .nil)))) .nil))))))))))))) .nil))) (.cons (.asg (.nm 2) (.bi .tuple (.cons (.lc (.nm 6) (.e (.loc 1)) .no (.bi .tuple (.cons (.lc (.nm 7) (.e (.loc 6)) .no (.bin .Add (.loc 7) (.loc 5)) [7]) .nil)) [6]) .nil))) (.cons (.asg (.nm 3) (.lst (.cons (.tup (.cons (.tup (.cons (.lit (.int 1)) (.cons (.lit (.int 3)) .nil))) (.cons (.tup (.cons (.lit (.int 2)) (.cons (.lit (.int 4)) .nil))) (.cons (.tup (.cons (.lit (.int 5)) (.cons (.lit (.int 11)) .nil))) (.cons (.tup (.cons (.lit (.int 6)) (.cons (.lit (.int 8)) .nil))) (.cons (.tup (.cons (.lit (.int 7)) (.cons (.lit (.int 9)) .nil))) .nil)))))) (.cons (.tup (.cons (.lit (.int 10)) .nil)) .nil)))) (.cons (.ret (.and (.cmp .Eq (.lst (.cons (.call 8 (.cons (.loc 1) .nil)) (.cons (.call 9 (.cons (.loc 1) .nil)) .nil))) (.loc 3)) (.cmp .Eq (.lst (.cons (.call 8 (.cons (.loc 2) .nil)) (.cons (.call 9 (.cons (.loc 2) .nil)) .nil))) (.loc 3)))) .nil))))))⟩
/-- law -/
def f17 : Fn := ⟨1, 3, [true], (.cons (.asg (.nm 1) (.lst (.cons (.call 8 (.cons (.tup (.cons (.tup (.cons (.lit (.int 7)) .nil)) .nil)) .nil)) (.cons (.call 9 (.cons (.tup (.cons (.tup (.cons (.lit (.int 7)) .nil)) .nil)) .nil)) (.cons (.call 8 (.cons (.tup (.cons (.tup (.cons (.lit (.int 7)) .nil)) (.cons (.tup (.cons (.lit (.int 3)) .nil)) (.cons (.tup (.cons (.lit (.int 3)) (.cons (.lit (.int 7)) .nil))) .nil)))) .nil)) (.cons (.call 9 (.cons (.tup (.cons (.tup (.cons (.lit (.int 7)) .nil)) (.cons (.tup (.cons (.lit (.int 3)) .nil)) .nil))) .nil)) .nil)))))) (.cons (.ife (.cmp .NotEq (.loc 1) (.lst (.cons (.tup .nil) (.cons (.tup .nil) (.cons (.tup (.cons (.tup (.cons (.lit (.int 1)) (.cons (.lit (.int 2)) .nil))) .nil)) (.cons (.tup (.cons (.lit (.int 1)) .nil)) .nil)))))) (.cons (.ret (.lit (.bl false))) .nil) .nil) (.cons (.ret (.bi .all (.cons (.lc (.nm 2) (.rng (.cons (.bi .max (.cons (.lit (.int 2)) (.cons (.bi .min (.cons (.bi .len (.cons (.loc 0) .nil)) (.cons (.lit (.int 4)) .nil))) .nil))) .nil)) .no (.call 16 (.cons (.call 10 (.cons (.loc 0) (.cons (.loc 2) .nil))) .nil)) [2]) .nil))) .nil)))⟩
def tT : Nat → Option Fn
  | 0 => some f0
  | 1 => some f1
  | 2 => some f2
  | 3 => some f3
  | 4 => some f4
  | 5 => some f5
  | 6 => some f6
  | 7 => some f7
  | 8 => some f8
  | 9 => some f9
  | 10 => some f10
  | 11 => some f11
  | 12 => some f12
  | 13 => some f13
  | 14 => some f14
  | 15 => some f15
  | 16 => some f16
  | 17 => some f17
  | _ => none
def tG : Nat → Option D
  | 0 => some (.int 10)
  | 1 => some (.int 200)
  | _ => none
def tgn : Nat → Option Str
  | 0 => some "MOST_POINTS"
  | 1 => some "MOST_ORDER"
  | _ => none
def tnm : Nat → Str
  | 0 => "is_integer"
  | 1 => "is_between"
  | 2 => "is_lot"
  | 3 => "all_but_one"
  | 4 => "can_come"
  | 5 => "check_order"
  | 6 => "edges_told"
  | 7 => "made_and_filled"
  | 8 => "births"
  | 9 => "staying"
  | 10 => "_law_cask_of"
  | 11 => "_law_tap"
  | 12 => "_law_subsets"
  | 13 => "_law_ties"
  | 14 => "_law_known_right"
  | 15 => "_law_full_right"
  | 16 => "_law_right"
  | 17 => "law"
  | _ => ""
def tst : Nat → Stmt
  | 0 => topS 6
  | 1 => topS 7
  | 2 => topS 8
  | 3 => topS 10
  | 4 => topS 11
  | 5 => topS 12
  | 6 => topS 13
  | 7 => topS 14
  | 8 => topS 15
  | 9 => topS 16
  | 10 => topS 18
  | 11 => topS 19
  | 12 => topS 20
  | 13 => topS 21
  | 14 => topS 22
  | 15 => topS 23
  | 16 => topS 24
  | 17 => topS 25
  | _ => topS 0
def tN : Nat → List Str
  | 0 => ["value"]
  | 1 => ["value", "low", "high"]
  | 2 => ["value", "many", "before", "after", "number"]
  | 3 => ["face", "at"]
  | 4 => ["face", "before", "lesser"]
  | 5 => ["order", "before", "at", "face"]
  | 6 => ["order", "places", "face", "at", "lesser"]
  | 7 => ["order", "basis", "makers", "pairs", "at", "bits"]
  | 8 => ["order"]
  | 9 => ["order", "filled", "makers", "pairs", "pair", "at"]
  | 10 => ["script", "turn", "cell", "stirred", "at", "each"]
  | 11 => ["cask", "top", "base", "got"]
  | 12 => ["lot", "found", "each", "some"]
  | 13 => ["n", "k"]
  | 14 => ["n", "single", "due", "back", "turned", "path_here", "ring_here", "k"]
  | 15 => ["n", "every", "many", "lot"]
  | 16 => ["cask", "row", "moved_row", "due", "n", "by", "lot", "p"]
  | 17 => ["script", "told", "turn"]
  | _ => []
def tps : Nat → List Str
  | 0 => ["value"]
  | 1 => ["value", "low", "high"]
  | 2 => ["value", "many"]
  | 3 => ["face"]
  | 4 => ["face", "before"]
  | 5 => ["order"]
  | 6 => ["order"]
  | 7 => ["order"]
  | 8 => ["order"]
  | 9 => ["order"]
  | 10 => ["script", "turn"]
  | 11 => ["cask", "top"]
  | 12 => ["lot"]
  | 13 => ["n"]
  | 14 => ["n"]
  | 15 => ["n"]
  | 16 => ["cask"]
  | 17 => ["script"]
  | _ => []
def B : Tab := ⟨tT, tG, tnm, tst, tN, tps, tgn⟩
theorem sc0 : L2.FnScope (tN 0) (tps 0) (L2.defScope (tst 0)) := ⟨rfl, rfl, rfl, by decide +kernel, rfl, by decide +kernel, by decide +kernel⟩
theorem ck0 : chkSs (B.ga 0) f0.body ⟨L2.defScope (tst 0), fun _ => true⟩ (L2.defBody (tst 0)) = true := by decide +kernel
theorem sc1 : L2.FnScope (tN 1) (tps 1) (L2.defScope (tst 1)) := ⟨rfl, rfl, rfl, by decide +kernel, rfl, by decide +kernel, by decide +kernel⟩
theorem ck1 : chkSs (B.ga 1) f1.body ⟨L2.defScope (tst 1), fun _ => true⟩ (L2.defBody (tst 1)) = true := by decide +kernel
theorem sc2 : L2.FnScope (tN 2) (tps 2) (L2.defScope (tst 2)) := ⟨rfl, rfl, rfl, by decide +kernel, rfl, by decide +kernel, by decide +kernel⟩
theorem ck2 : chkSs (B.ga 2) f2.body ⟨L2.defScope (tst 2), fun _ => true⟩ (L2.defBody (tst 2)) = true := by decide +kernel
theorem sc3 : L2.FnScope (tN 3) (tps 3) (L2.defScope (tst 3)) := ⟨rfl, rfl, rfl, by decide +kernel, rfl, by decide +kernel, by decide +kernel⟩
theorem ck3 : chkSs (B.ga 3) f3.body ⟨L2.defScope (tst 3), fun _ => true⟩ (L2.defBody (tst 3)) = true := by decide +kernel
theorem sc4 : L2.FnScope (tN 4) (tps 4) (L2.defScope (tst 4)) := ⟨rfl, rfl, rfl, by decide +kernel, rfl, by decide +kernel, by decide +kernel⟩
theorem ck4 : chkSs (B.ga 4) f4.body ⟨L2.defScope (tst 4), fun _ => true⟩ (L2.defBody (tst 4)) = true := by decide +kernel
theorem sc5 : L2.FnScope (tN 5) (tps 5) (L2.defScope (tst 5)) := ⟨rfl, rfl, rfl, by decide +kernel, rfl, by decide +kernel, by decide +kernel⟩
theorem ck5 : chkSs (B.ga 5) f5.body ⟨L2.defScope (tst 5), fun _ => true⟩ (L2.defBody (tst 5)) = true := by decide +kernel
theorem sc6 : L2.FnScope (tN 6) (tps 6) (L2.defScope (tst 6)) := ⟨rfl, rfl, rfl, by decide +kernel, rfl, by decide +kernel, by decide +kernel⟩
theorem ck6 : chkSs (B.ga 6) f6.body ⟨L2.defScope (tst 6), fun _ => true⟩ (L2.defBody (tst 6)) = true := by decide +kernel
theorem sc7 : L2.FnScope (tN 7) (tps 7) (L2.defScope (tst 7)) := ⟨rfl, rfl, rfl, by decide +kernel, rfl, by decide +kernel, by decide +kernel⟩
theorem ck7 : chkSs (B.ga 7) f7.body ⟨L2.defScope (tst 7), fun _ => true⟩ (L2.defBody (tst 7)) = true := by decide +kernel
theorem sc8 : L2.FnScope (tN 8) (tps 8) (L2.defScope (tst 8)) := ⟨rfl, rfl, rfl, by decide +kernel, rfl, by decide +kernel, by decide +kernel⟩
theorem ck8 : chkSs (B.ga 8) f8.body ⟨L2.defScope (tst 8), fun _ => true⟩ (L2.defBody (tst 8)) = true := by decide +kernel
theorem sc9 : L2.FnScope (tN 9) (tps 9) (L2.defScope (tst 9)) := ⟨rfl, rfl, rfl, by decide +kernel, rfl, by decide +kernel, by decide +kernel⟩
theorem ck9 : chkSs (B.ga 9) f9.body ⟨L2.defScope (tst 9), fun _ => true⟩ (L2.defBody (tst 9)) = true := by decide +kernel
theorem sc10 : L2.FnScope (tN 10) (tps 10) (L2.defScope (tst 10)) := ⟨rfl, rfl, rfl, by decide +kernel, rfl, by decide +kernel, by decide +kernel⟩
theorem ck10 : chkSs (B.ga 10) f10.body ⟨L2.defScope (tst 10), fun _ => true⟩ (L2.defBody (tst 10)) = true := by decide +kernel
theorem sc11 : L2.FnScope (tN 11) (tps 11) (L2.defScope (tst 11)) := ⟨rfl, rfl, rfl, by decide +kernel, rfl, by decide +kernel, by decide +kernel⟩
theorem ck11 : chkSs (B.ga 11) f11.body ⟨L2.defScope (tst 11), fun _ => true⟩ (L2.defBody (tst 11)) = true := by decide +kernel
theorem sc12 : L2.FnScope (tN 12) (tps 12) (L2.defScope (tst 12)) := ⟨rfl, rfl, rfl, by decide +kernel, rfl, by decide +kernel, by decide +kernel⟩
theorem ck12 : chkSs (B.ga 12) f12.body ⟨L2.defScope (tst 12), fun _ => true⟩ (L2.defBody (tst 12)) = true := by decide +kernel
theorem sc13 : L2.FnScope (tN 13) (tps 13) (L2.defScope (tst 13)) := ⟨rfl, rfl, rfl, by decide +kernel, rfl, by decide +kernel, by decide +kernel⟩
theorem ck13 : chkSs (B.ga 13) f13.body ⟨L2.defScope (tst 13), fun _ => true⟩ (L2.defBody (tst 13)) = true := by decide +kernel
theorem sc14 : L2.FnScope (tN 14) (tps 14) (L2.defScope (tst 14)) := ⟨rfl, rfl, rfl, by decide +kernel, rfl, by decide +kernel, by decide +kernel⟩
theorem ck14 : chkSs (B.ga 14) f14.body ⟨L2.defScope (tst 14), fun _ => true⟩ (L2.defBody (tst 14)) = true := by decide +kernel
theorem sc15 : L2.FnScope (tN 15) (tps 15) (L2.defScope (tst 15)) := ⟨rfl, rfl, rfl, by decide +kernel, rfl, by decide +kernel, by decide +kernel⟩
theorem ck15 : chkSs (B.ga 15) f15.body ⟨L2.defScope (tst 15), fun _ => true⟩ (L2.defBody (tst 15)) = true := by decide +kernel
theorem sc16 : L2.FnScope (tN 16) (tps 16) (L2.defScope (tst 16)) := ⟨rfl, rfl, rfl, by decide +kernel, rfl, by decide +kernel, by decide +kernel⟩
theorem ck16 : chkSs (B.ga 16) f16.body ⟨L2.defScope (tst 16), fun _ => true⟩ (L2.defBody (tst 16)) = true := by decide +kernel
theorem sc17 : L2.FnScope (tN 17) (tps 17) (L2.defScope (tst 17)) := ⟨rfl, rfl, rfl, by decide +kernel, rfl, by decide +kernel, by decide +kernel⟩
theorem ck17 : chkSs (B.ga 17) f17.body ⟨L2.defScope (tst 17), fun _ => true⟩ (L2.defBody (tst 17)) = true := by decide +kernel
theorem bOk : B.Ok := by
  refine ⟨fun f F h => ?_, fun f F h => ?_, fun f F h => ?_⟩
  · match f, h with
    | 0, h => cases h; exact sc0
    | 1, h => cases h; exact sc1
    | 2, h => cases h; exact sc2
    | 3, h => cases h; exact sc3
    | 4, h => cases h; exact sc4
    | 5, h => cases h; exact sc5
    | 6, h => cases h; exact sc6
    | 7, h => cases h; exact sc7
    | 8, h => cases h; exact sc8
    | 9, h => cases h; exact sc9
    | 10, h => cases h; exact sc10
    | 11, h => cases h; exact sc11
    | 12, h => cases h; exact sc12
    | 13, h => cases h; exact sc13
    | 14, h => cases h; exact sc14
    | 15, h => cases h; exact sc15
    | 16, h => cases h; exact sc16
    | 17, h => cases h; exact sc17
    | n + 18, h => exact nomatch h
  · match f, h with
    | 0, h => cases h; exact ⟨rfl, rfl⟩
    | 1, h => cases h; exact ⟨rfl, rfl⟩
    | 2, h => cases h; exact ⟨rfl, rfl⟩
    | 3, h => cases h; exact ⟨rfl, rfl⟩
    | 4, h => cases h; exact ⟨rfl, rfl⟩
    | 5, h => cases h; exact ⟨rfl, rfl⟩
    | 6, h => cases h; exact ⟨rfl, rfl⟩
    | 7, h => cases h; exact ⟨rfl, rfl⟩
    | 8, h => cases h; exact ⟨rfl, rfl⟩
    | 9, h => cases h; exact ⟨rfl, rfl⟩
    | 10, h => cases h; exact ⟨rfl, rfl⟩
    | 11, h => cases h; exact ⟨rfl, rfl⟩
    | 12, h => cases h; exact ⟨rfl, rfl⟩
    | 13, h => cases h; exact ⟨rfl, rfl⟩
    | 14, h => cases h; exact ⟨rfl, rfl⟩
    | 15, h => cases h; exact ⟨rfl, rfl⟩
    | 16, h => cases h; exact ⟨rfl, rfl⟩
    | 17, h => cases h; exact ⟨rfl, rfl⟩
    | n + 18, h => exact nomatch h
  · match f, h with
    | 0, h => cases h; exact ck0
    | 1, h => cases h; exact ck1
    | 2, h => cases h; exact ck2
    | 3, h => cases h; exact ck3
    | 4, h => cases h; exact ck4
    | 5, h => cases h; exact ck5
    | 6, h => cases h; exact ck6
    | 7, h => cases h; exact ck7
    | 8, h => cases h; exact ck8
    | 9, h => cases h; exact ck9
    | 10, h => cases h; exact ck10
    | 11, h => cases h; exact ck11
    | 12, h => cases h; exact ck12
    | 13, h => cases h; exact ck13
    | 14, h => cases h; exact ck14
    | 15, h => cases h; exact ck15
    | 16, h => cases h; exact ck16
    | 17, h => cases h; exact ck17
    | n + 18, h => exact nomatch h
open L2 PyProof.Rows in
theorem all_mk {P : Program} {w : World} {K : PySem.W.Frag} {h : Heap} {mg : Str → Option Value} {fa : Addr} (X : K.In h) (G : h.Ns mainGlobals mg) (hfa : mg "law" = some (.ref fa))
    {fa0 : Addr} {od0 an0 : Option Addr} {sl0 : Array (Option Value)} {oc0 kV0 dc0 pm0 cd0 cx0 : Value}
    {fa1 : Addr} {od1 an1 : Option Addr} {sl1 : Array (Option Value)} {oc1 kV1 dc1 pm1 cd1 cx1 : Value}
    {fa2 : Addr} {od2 an2 : Option Addr} {sl2 : Array (Option Value)} {oc2 kV2 dc2 pm2 cd2 cx2 : Value}
    {fa3 : Addr} {od3 an3 : Option Addr} {sl3 : Array (Option Value)} {oc3 kV3 dc3 pm3 cd3 cx3 : Value}
    {fa4 : Addr} {od4 an4 : Option Addr} {sl4 : Array (Option Value)} {oc4 kV4 dc4 pm4 cd4 cx4 : Value}
    {fa5 : Addr} {od5 an5 : Option Addr} {sl5 : Array (Option Value)} {oc5 kV5 dc5 pm5 cd5 cx5 : Value}
    {fa6 : Addr} {od6 an6 : Option Addr} {sl6 : Array (Option Value)} {oc6 kV6 dc6 pm6 cd6 cx6 : Value}
    {fa7 : Addr} {od7 an7 : Option Addr} {sl7 : Array (Option Value)} {oc7 kV7 dc7 pm7 cd7 cx7 : Value}
    {fa8 : Addr} {od8 an8 : Option Addr} {sl8 : Array (Option Value)} {oc8 kV8 dc8 pm8 cd8 cx8 : Value}
    {fa9 : Addr} {od9 an9 : Option Addr} {sl9 : Array (Option Value)} {oc9 kV9 dc9 pm9 cd9 cx9 : Value}
    {fa10 : Addr} {od10 an10 : Option Addr} {sl10 : Array (Option Value)} {oc10 kV10 dc10 pm10 cd10 cx10 : Value}
    {fa11 : Addr} {od11 an11 : Option Addr} {sl11 : Array (Option Value)} {oc11 kV11 dc11 pm11 cd11 cx11 : Value}
    {fa12 : Addr} {od12 an12 : Option Addr} {sl12 : Array (Option Value)} {oc12 kV12 dc12 pm12 cd12 cx12 : Value}
    {fa13 : Addr} {od13 an13 : Option Addr} {sl13 : Array (Option Value)} {oc13 kV13 dc13 pm13 cd13 cx13 : Value}
    {fa14 : Addr} {od14 an14 : Option Addr} {sl14 : Array (Option Value)} {oc14 kV14 dc14 pm14 cd14 cx14 : Value}
    {fa15 : Addr} {od15 an15 : Option Addr} {sl15 : Array (Option Value)} {oc15 kV15 dc15 pm15 cd15 cx15 : Value}
    {fa16 : Addr} {od16 an16 : Option Addr} {sl16 : Array (Option Value)} {oc16 kV16 dc16 pm16 cd16 cx16 : Value}
    {fa17 : Addr} {od17 an17 : Option Addr} {sl17 : Array (Option Value)} {oc17 kV17 dc17 pm17 cd17 cx17 : Value}
    (a0 : PySem.W.nsIn K mainGlobals "is_integer" = some (some (.ref fa0))) (l0 : K.lookup fa0 = some ⟨oc0, od0, .func (PySem.W.fnOf "is_integer" "is_integer" (L2.defArgs (topS 6)) (L2.defBody (topS 6)) (L2.defScope (topS 6)) .none kV0 dc0 pm0 an0 cd0 cx0), sl0⟩) (c0 : PySem.W.codeIn K cd0 "is_integer" = true) (k0 : PySem.W.keepIn K (.ref fa0) = true)
    (a1 : PySem.W.nsIn K mainGlobals "is_between" = some (some (.ref fa1))) (l1 : K.lookup fa1 = some ⟨oc1, od1, .func (PySem.W.fnOf "is_between" "is_between" (L2.defArgs (topS 7)) (L2.defBody (topS 7)) (L2.defScope (topS 7)) .none kV1 dc1 pm1 an1 cd1 cx1), sl1⟩) (c1 : PySem.W.codeIn K cd1 "is_between" = true) (k1 : PySem.W.keepIn K (.ref fa1) = true)
    (a2 : PySem.W.nsIn K mainGlobals "is_lot" = some (some (.ref fa2))) (l2 : K.lookup fa2 = some ⟨oc2, od2, .func (PySem.W.fnOf "is_lot" "is_lot" (L2.defArgs (topS 8)) (L2.defBody (topS 8)) (L2.defScope (topS 8)) .none kV2 dc2 pm2 an2 cd2 cx2), sl2⟩) (c2 : PySem.W.codeIn K cd2 "is_lot" = true) (k2 : PySem.W.keepIn K (.ref fa2) = true)
    (a3 : PySem.W.nsIn K mainGlobals "all_but_one" = some (some (.ref fa3))) (l3 : K.lookup fa3 = some ⟨oc3, od3, .func (PySem.W.fnOf "all_but_one" "all_but_one" (L2.defArgs (topS 10)) (L2.defBody (topS 10)) (L2.defScope (topS 10)) .none kV3 dc3 pm3 an3 cd3 cx3), sl3⟩) (c3 : PySem.W.codeIn K cd3 "all_but_one" = true) (k3 : PySem.W.keepIn K (.ref fa3) = true)
    (a4 : PySem.W.nsIn K mainGlobals "can_come" = some (some (.ref fa4))) (l4 : K.lookup fa4 = some ⟨oc4, od4, .func (PySem.W.fnOf "can_come" "can_come" (L2.defArgs (topS 11)) (L2.defBody (topS 11)) (L2.defScope (topS 11)) .none kV4 dc4 pm4 an4 cd4 cx4), sl4⟩) (c4 : PySem.W.codeIn K cd4 "can_come" = true) (k4 : PySem.W.keepIn K (.ref fa4) = true)
    (a5 : PySem.W.nsIn K mainGlobals "check_order" = some (some (.ref fa5))) (l5 : K.lookup fa5 = some ⟨oc5, od5, .func (PySem.W.fnOf "check_order" "check_order" (L2.defArgs (topS 12)) (L2.defBody (topS 12)) (L2.defScope (topS 12)) .none kV5 dc5 pm5 an5 cd5 cx5), sl5⟩) (c5 : PySem.W.codeIn K cd5 "check_order" = true) (k5 : PySem.W.keepIn K (.ref fa5) = true)
    (a6 : PySem.W.nsIn K mainGlobals "edges_told" = some (some (.ref fa6))) (l6 : K.lookup fa6 = some ⟨oc6, od6, .func (PySem.W.fnOf "edges_told" "edges_told" (L2.defArgs (topS 13)) (L2.defBody (topS 13)) (L2.defScope (topS 13)) .none kV6 dc6 pm6 an6 cd6 cx6), sl6⟩) (c6 : PySem.W.codeIn K cd6 "edges_told" = true) (k6 : PySem.W.keepIn K (.ref fa6) = true)
    (a7 : PySem.W.nsIn K mainGlobals "made_and_filled" = some (some (.ref fa7))) (l7 : K.lookup fa7 = some ⟨oc7, od7, .func (PySem.W.fnOf "made_and_filled" "made_and_filled" (L2.defArgs (topS 14)) (L2.defBody (topS 14)) (L2.defScope (topS 14)) .none kV7 dc7 pm7 an7 cd7 cx7), sl7⟩) (c7 : PySem.W.codeIn K cd7 "made_and_filled" = true) (k7 : PySem.W.keepIn K (.ref fa7) = true)
    (a8 : PySem.W.nsIn K mainGlobals "births" = some (some (.ref fa8))) (l8 : K.lookup fa8 = some ⟨oc8, od8, .func (PySem.W.fnOf "births" "births" (L2.defArgs (topS 15)) (L2.defBody (topS 15)) (L2.defScope (topS 15)) .none kV8 dc8 pm8 an8 cd8 cx8), sl8⟩) (c8 : PySem.W.codeIn K cd8 "births" = true) (k8 : PySem.W.keepIn K (.ref fa8) = true)
    (a9 : PySem.W.nsIn K mainGlobals "staying" = some (some (.ref fa9))) (l9 : K.lookup fa9 = some ⟨oc9, od9, .func (PySem.W.fnOf "staying" "staying" (L2.defArgs (topS 16)) (L2.defBody (topS 16)) (L2.defScope (topS 16)) .none kV9 dc9 pm9 an9 cd9 cx9), sl9⟩) (c9 : PySem.W.codeIn K cd9 "staying" = true) (k9 : PySem.W.keepIn K (.ref fa9) = true)
    (a10 : PySem.W.nsIn K mainGlobals "_law_cask_of" = some (some (.ref fa10))) (l10 : K.lookup fa10 = some ⟨oc10, od10, .func (PySem.W.fnOf "_law_cask_of" "_law_cask_of" (L2.defArgs (topS 18)) (L2.defBody (topS 18)) (L2.defScope (topS 18)) .none kV10 dc10 pm10 an10 cd10 cx10), sl10⟩) (c10 : PySem.W.codeIn K cd10 "_law_cask_of" = true) (k10 : PySem.W.keepIn K (.ref fa10) = true)
    (a11 : PySem.W.nsIn K mainGlobals "_law_tap" = some (some (.ref fa11))) (l11 : K.lookup fa11 = some ⟨oc11, od11, .func (PySem.W.fnOf "_law_tap" "_law_tap" (L2.defArgs (topS 19)) (L2.defBody (topS 19)) (L2.defScope (topS 19)) .none kV11 dc11 pm11 an11 cd11 cx11), sl11⟩) (c11 : PySem.W.codeIn K cd11 "_law_tap" = true) (k11 : PySem.W.keepIn K (.ref fa11) = true)
    (a12 : PySem.W.nsIn K mainGlobals "_law_subsets" = some (some (.ref fa12))) (l12 : K.lookup fa12 = some ⟨oc12, od12, .func (PySem.W.fnOf "_law_subsets" "_law_subsets" (L2.defArgs (topS 20)) (L2.defBody (topS 20)) (L2.defScope (topS 20)) .none kV12 dc12 pm12 an12 cd12 cx12), sl12⟩) (c12 : PySem.W.codeIn K cd12 "_law_subsets" = true) (k12 : PySem.W.keepIn K (.ref fa12) = true)
    (a13 : PySem.W.nsIn K mainGlobals "_law_ties" = some (some (.ref fa13))) (l13 : K.lookup fa13 = some ⟨oc13, od13, .func (PySem.W.fnOf "_law_ties" "_law_ties" (L2.defArgs (topS 21)) (L2.defBody (topS 21)) (L2.defScope (topS 21)) .none kV13 dc13 pm13 an13 cd13 cx13), sl13⟩) (c13 : PySem.W.codeIn K cd13 "_law_ties" = true) (k13 : PySem.W.keepIn K (.ref fa13) = true)
    (a14 : PySem.W.nsIn K mainGlobals "_law_known_right" = some (some (.ref fa14))) (l14 : K.lookup fa14 = some ⟨oc14, od14, .func (PySem.W.fnOf "_law_known_right" "_law_known_right" (L2.defArgs (topS 22)) (L2.defBody (topS 22)) (L2.defScope (topS 22)) .none kV14 dc14 pm14 an14 cd14 cx14), sl14⟩) (c14 : PySem.W.codeIn K cd14 "_law_known_right" = true) (k14 : PySem.W.keepIn K (.ref fa14) = true)
    (a15 : PySem.W.nsIn K mainGlobals "_law_full_right" = some (some (.ref fa15))) (l15 : K.lookup fa15 = some ⟨oc15, od15, .func (PySem.W.fnOf "_law_full_right" "_law_full_right" (L2.defArgs (topS 23)) (L2.defBody (topS 23)) (L2.defScope (topS 23)) .none kV15 dc15 pm15 an15 cd15 cx15), sl15⟩) (c15 : PySem.W.codeIn K cd15 "_law_full_right" = true) (k15 : PySem.W.keepIn K (.ref fa15) = true)
    (a16 : PySem.W.nsIn K mainGlobals "_law_right" = some (some (.ref fa16))) (l16 : K.lookup fa16 = some ⟨oc16, od16, .func (PySem.W.fnOf "_law_right" "_law_right" (L2.defArgs (topS 24)) (L2.defBody (topS 24)) (L2.defScope (topS 24)) .none kV16 dc16 pm16 an16 cd16 cx16), sl16⟩) (c16 : PySem.W.codeIn K cd16 "_law_right" = true) (k16 : PySem.W.keepIn K (.ref fa16) = true)
    (a17 : PySem.W.nsIn K mainGlobals "law" = some (some (.ref fa17))) (l17 : K.lookup fa17 = some ⟨oc17, od17, .func (PySem.W.fnOf "law" "law" (L2.defArgs (topS 25)) (L2.defBody (topS 25)) (L2.defScope (topS 25)) .none kV17 dc17 pm17 an17 cd17 cx17), sl17⟩) (c17 : PySem.W.codeIn K cd17 "law" = true) (k17 : PySem.W.keepIn K (.ref fa17) = true)
    {tk0 : Tok} (g0 : PySem.W.nsIn K mainGlobals "MOST_POINTS" = some (some (.int 10 tk0)))
    {tk1 : Tok} (g1 : PySem.W.nsIn K mainGlobals "MOST_ORDER" = some (some (.int 200 tk1)))
    (z0 : PySem.W.nsIn K mainGlobals "len" = some none)
    (z1 : PySem.W.nsIn K mainGlobals "all" = some none)
    (z2 : PySem.W.nsIn K mainGlobals "any" = some none)
    (z3 : PySem.W.nsIn K mainGlobals "sum" = some none)
    (z4 : PySem.W.nsIn K mainGlobals "sorted" = some none)
    (z5 : PySem.W.nsIn K mainGlobals "tuple" = some none)
    (z6 : PySem.W.nsIn K mainGlobals "list" = some none)
    (z7 : PySem.W.nsIn K mainGlobals "max" = some none)
    (z8 : PySem.W.nsIn K mainGlobals "min" = some none)
    (z9 : PySem.W.nsIn K mainGlobals "abs" = some none)
    (z10 : PySem.W.nsIn K mainGlobals "int" = some none)
    (z11 : PySem.W.nsIn K mainGlobals "divmod" = some none)
    (z12 : PySem.W.nsIn K mainGlobals "isinstance" = some none)
    (z13 : PySem.W.nsIn K mainGlobals "repr" = some none)
    (z14 : PySem.W.nsIn K mainGlobals "str" = some none)
    (z15 : PySem.W.nsIn K mainGlobals "bool" = some none)
    (z16 : PySem.W.nsIn K mainGlobals "set" = some none)
    (z17 : PySem.W.nsIn K mainGlobals "range" = some none)
    (z18 : PySem.W.nsIn K mainGlobals "enumerate" = some none)
    (z19 : PySem.W.nsIn K mainGlobals "zip" = some none)
    (ec : Nat → Option (Value × List Str)) (W : WX) (n : Nat) : ∃ fd : FuncData, (∀ (s : Shared) (v : Value), BindsTo s fd ⟨[v], []⟩ [("script", v)]) ∧ ∀ base : Heap, K.In base → base.Ns mainGlobals mg → FnOk P w K mg base (L2.CX P w) n fa fd ["script"] (spF ⟨K, W, ec⟩ (B.C n) 17 1) := by
  have e := hfa.symm.trans (PySem.W.mg_of X G a17)
  cases e
  have F0 := fun_mk (st := topS 6) l0 c0 k0
  have F1 := fun_mk (st := topS 7) l1 c1 k1
  have F2 := fun_mk (st := topS 8) l2 c2 k2
  have F3 := fun_mk (st := topS 10) l3 c3 k3
  have F4 := fun_mk (st := topS 11) l4 c4 k4
  have F5 := fun_mk (st := topS 12) l5 c5 k5
  have F6 := fun_mk (st := topS 13) l6 c6 k6
  have F7 := fun_mk (st := topS 14) l7 c7 k7
  have F8 := fun_mk (st := topS 15) l8 c8 k8
  have F9 := fun_mk (st := topS 16) l9 c9 k9
  have F10 := fun_mk (st := topS 18) l10 c10 k10
  have F11 := fun_mk (st := topS 19) l11 c11 k11
  have F12 := fun_mk (st := topS 20) l12 c12 k12
  have F13 := fun_mk (st := topS 21) l13 c13 k13
  have F14 := fun_mk (st := topS 22) l14 c14 k14
  have F15 := fun_mk (st := topS 23) l15 c15 k15
  have F16 := fun_mk (st := topS 24) l16 c16 k16
  have F17 := fun_mk (st := topS 25) l17 c17 k17
  have A : B.At K mg (fun n => match n with | 0 => fa0 | 1 => fa1 | 2 => fa2 | 3 => fa3 | 4 => fa4 | 5 => fa5 | 6 => fa6 | 7 => fa7 | 8 => fa8 | 9 => fa9 | 10 => fa10 | 11 => fa11 | 12 => fa12 | 13 => fa13 | 14 => fa14 | 15 => fa15 | 16 => fa16 | 17 => fa | _ => fa0) (fun n => match n with | 0 => PySem.W.fnOf "is_integer" "is_integer" (L2.defArgs (topS 6)) (L2.defBody (topS 6)) (L2.defScope (topS 6)) .none kV0 dc0 pm0 an0 cd0 cx0 | 1 => PySem.W.fnOf "is_between" "is_between" (L2.defArgs (topS 7)) (L2.defBody (topS 7)) (L2.defScope (topS 7)) .none kV1 dc1 pm1 an1 cd1 cx1 | 2 => PySem.W.fnOf "is_lot" "is_lot" (L2.defArgs (topS 8)) (L2.defBody (topS 8)) (L2.defScope (topS 8)) .none kV2 dc2 pm2 an2 cd2 cx2 | 3 => PySem.W.fnOf "all_but_one" "all_but_one" (L2.defArgs (topS 10)) (L2.defBody (topS 10)) (L2.defScope (topS 10)) .none kV3 dc3 pm3 an3 cd3 cx3 | 4 => PySem.W.fnOf "can_come" "can_come" (L2.defArgs (topS 11)) (L2.defBody (topS 11)) (L2.defScope (topS 11)) .none kV4 dc4 pm4 an4 cd4 cx4 | 5 => PySem.W.fnOf "check_order" "check_order" (L2.defArgs (topS 12)) (L2.defBody (topS 12)) (L2.defScope (topS 12)) .none kV5 dc5 pm5 an5 cd5 cx5 | 6 => PySem.W.fnOf "edges_told" "edges_told" (L2.defArgs (topS 13)) (L2.defBody (topS 13)) (L2.defScope (topS 13)) .none kV6 dc6 pm6 an6 cd6 cx6 | 7 => PySem.W.fnOf "made_and_filled" "made_and_filled" (L2.defArgs (topS 14)) (L2.defBody (topS 14)) (L2.defScope (topS 14)) .none kV7 dc7 pm7 an7 cd7 cx7 | 8 => PySem.W.fnOf "births" "births" (L2.defArgs (topS 15)) (L2.defBody (topS 15)) (L2.defScope (topS 15)) .none kV8 dc8 pm8 an8 cd8 cx8 | 9 => PySem.W.fnOf "staying" "staying" (L2.defArgs (topS 16)) (L2.defBody (topS 16)) (L2.defScope (topS 16)) .none kV9 dc9 pm9 an9 cd9 cx9 | 10 => PySem.W.fnOf "_law_cask_of" "_law_cask_of" (L2.defArgs (topS 18)) (L2.defBody (topS 18)) (L2.defScope (topS 18)) .none kV10 dc10 pm10 an10 cd10 cx10 | 11 => PySem.W.fnOf "_law_tap" "_law_tap" (L2.defArgs (topS 19)) (L2.defBody (topS 19)) (L2.defScope (topS 19)) .none kV11 dc11 pm11 an11 cd11 cx11 | 12 => PySem.W.fnOf "_law_subsets" "_law_subsets" (L2.defArgs (topS 20)) (L2.defBody (topS 20)) (L2.defScope (topS 20)) .none kV12 dc12 pm12 an12 cd12 cx12 | 13 => PySem.W.fnOf "_law_ties" "_law_ties" (L2.defArgs (topS 21)) (L2.defBody (topS 21)) (L2.defScope (topS 21)) .none kV13 dc13 pm13 an13 cd13 cx13 | 14 => PySem.W.fnOf "_law_known_right" "_law_known_right" (L2.defArgs (topS 22)) (L2.defBody (topS 22)) (L2.defScope (topS 22)) .none kV14 dc14 pm14 an14 cd14 cx14 | 15 => PySem.W.fnOf "_law_full_right" "_law_full_right" (L2.defArgs (topS 23)) (L2.defBody (topS 23)) (L2.defScope (topS 23)) .none kV15 dc15 pm15 an15 cd15 cx15 | 16 => PySem.W.fnOf "_law_right" "_law_right" (L2.defArgs (topS 24)) (L2.defBody (topS 24)) (L2.defScope (topS 24)) .none kV16 dc16 pm16 an16 cd16 cx16 | 17 => PySem.W.fnOf "law" "law" (L2.defArgs (topS 25)) (L2.defBody (topS 25)) (L2.defScope (topS 25)) .none kV17 dc17 pm17 an17 cd17 cx17 | _ => PySem.W.fnOf "is_integer" "is_integer" (L2.defArgs (topS 6)) (L2.defBody (topS 6)) (L2.defScope (topS 6)) .none kV0 dc0 pm0 an0 cd0 cx0) := by
    refine ⟨fun f F h => ?_, fun n y h => ?_, ?_⟩
    · match f, h with
      | 0, h => exact ⟨PySem.W.mg_of X G a0, F0, F0.binds fun _ _ _ _ _ _ us hl => match us, hl with | [_], _ => rfl⟩
      | 1, h => exact ⟨PySem.W.mg_of X G a1, F1, F1.binds fun _ _ _ _ _ _ us hl => match us, hl with | [_, _, _], _ => rfl⟩
      | 2, h => exact ⟨PySem.W.mg_of X G a2, F2, F2.binds fun _ _ _ _ _ _ us hl => match us, hl with | [_, _], _ => rfl⟩
      | 3, h => exact ⟨PySem.W.mg_of X G a3, F3, F3.binds fun _ _ _ _ _ _ us hl => match us, hl with | [_], _ => rfl⟩
      | 4, h => exact ⟨PySem.W.mg_of X G a4, F4, F4.binds fun _ _ _ _ _ _ us hl => match us, hl with | [_, _], _ => rfl⟩
      | 5, h => exact ⟨PySem.W.mg_of X G a5, F5, F5.binds fun _ _ _ _ _ _ us hl => match us, hl with | [_], _ => rfl⟩
      | 6, h => exact ⟨PySem.W.mg_of X G a6, F6, F6.binds fun _ _ _ _ _ _ us hl => match us, hl with | [_], _ => rfl⟩
      | 7, h => exact ⟨PySem.W.mg_of X G a7, F7, F7.binds fun _ _ _ _ _ _ us hl => match us, hl with | [_], _ => rfl⟩
      | 8, h => exact ⟨PySem.W.mg_of X G a8, F8, F8.binds fun _ _ _ _ _ _ us hl => match us, hl with | [_], _ => rfl⟩
      | 9, h => exact ⟨PySem.W.mg_of X G a9, F9, F9.binds fun _ _ _ _ _ _ us hl => match us, hl with | [_], _ => rfl⟩
      | 10, h => exact ⟨PySem.W.mg_of X G a10, F10, F10.binds fun _ _ _ _ _ _ us hl => match us, hl with | [_, _], _ => rfl⟩
      | 11, h => exact ⟨PySem.W.mg_of X G a11, F11, F11.binds fun _ _ _ _ _ _ us hl => match us, hl with | [_, _], _ => rfl⟩
      | 12, h => exact ⟨PySem.W.mg_of X G a12, F12, F12.binds fun _ _ _ _ _ _ us hl => match us, hl with | [_], _ => rfl⟩
      | 13, h => exact ⟨PySem.W.mg_of X G a13, F13, F13.binds fun _ _ _ _ _ _ us hl => match us, hl with | [_], _ => rfl⟩
      | 14, h => exact ⟨PySem.W.mg_of X G a14, F14, F14.binds fun _ _ _ _ _ _ us hl => match us, hl with | [_], _ => rfl⟩
      | 15, h => exact ⟨PySem.W.mg_of X G a15, F15, F15.binds fun _ _ _ _ _ _ us hl => match us, hl with | [_], _ => rfl⟩
      | 16, h => exact ⟨PySem.W.mg_of X G a16, F16, F16.binds fun _ _ _ _ _ _ us hl => match us, hl with | [_], _ => rfl⟩
      | 17, h => exact ⟨PySem.W.mg_of X G a17, F17, F17.binds fun _ _ _ _ _ _ us hl => match us, hl with | [_], _ => rfl⟩
      | n + 18, h => exact nomatch h
    · match n, h with
      | 0, h => cases h; exact ⟨.int 10, _, .int 10, rfl, PySem.W.mg_of X G g0, ⟨_, rfl⟩, fun _ _ => .rep (.int _)⟩
      | 1, h => cases h; exact ⟨.int 200, _, .int 200, rfl, PySem.W.mg_of X G g1, ⟨_, rfl⟩, fun _ _ => .rep (.int _)⟩
      | n + 2, h => exact nomatch h
    · intro x hx
      simp only [btNs, List.mem_cons, List.not_mem_nil, or_false] at hx
      rcases hx with rfl | rfl | rfl | rfl | rfl | rfl | rfl | rfl | rfl | rfl | rfl | rfl | rfl | rfl | rfl | rfl | rfl | rfl | rfl | rfl
      · exact PySem.W.mg_none_of X G z0
      · exact PySem.W.mg_none_of X G z1
      · exact PySem.W.mg_none_of X G z2
      · exact PySem.W.mg_none_of X G z3
      · exact PySem.W.mg_none_of X G z4
      · exact PySem.W.mg_none_of X G z5
      · exact PySem.W.mg_none_of X G z6
      · exact PySem.W.mg_none_of X G z7
      · exact PySem.W.mg_none_of X G z8
      · exact PySem.W.mg_none_of X G z9
      · exact PySem.W.mg_none_of X G z10
      · exact PySem.W.mg_none_of X G z11
      · exact PySem.W.mg_none_of X G z12
      · exact PySem.W.mg_none_of X G z13
      · exact PySem.W.mg_none_of X G z14
      · exact PySem.W.mg_none_of X G z15
      · exact PySem.W.mg_none_of X G z16
      · exact PySem.W.mg_none_of X G z17
      · exact PySem.W.mg_none_of X G z18
      · exact PySem.W.mg_none_of X G z19
  exact ⟨PySem.W.fnOf "law" "law" (L2.defArgs (topS 25)) (L2.defBody (topS 25)) (L2.defScope (topS 25)) .none kV17 dc17 pm17 an17 cd17 cx17, fun s v => .of_eq rfl, fun base _ _ => Tab.fns bOk (P := P) (w := w) (base := base) A ec W n 17 f17 rfl⟩
end Lk58

set_option Elab.async false
set_option linter.all false
set_option maxRecDepth 100000
set_option maxHeartbeats 0
namespace Lk58
open PySem Pv
theorem small_of {j : Int} (h : -(2 ^ 64) < j) (h2 : j < 2 ^ 64) : small64 j = true := by
  unfold small64
  simp only [Bool.and_eq_true, decide_eq_true_eq]
  exact ⟨h, h2⟩
theorem tap_ok (n : Nat) (a b c top : Int) (h1 : 0 < top) (h2 : top < 1073741824) : ∃ t a' b' c' : Int, 0 ≤ t ∧ t < top ∧
    fnD tT tG (n + 1) 11 [.ce 0, .va (.int top)] [.ow (.lst [.int a, .int b, .int c])] [] = .ok (.int t) false [.ow (.lst [.int a', .int b', .int c'])] [] := by
  by_cases ha : 0 < a
  · refine ⟨a % top, a / top, b, c, Int.emod_nonneg _ (by omega), Int.emod_lt_of_pos _ h1, ?_⟩
    simp [fnD, tT, f11, runF, exs, ex, evT, ev, evs, asP, asDs, asD, putNm, Pv.putAt, keep, deref, derefs, cmp2, op2, op1, cmpD, idxD, atD, biD, setD, Cel.d, ha, h1, h2]
  · let base := (b + 47017 * (c + 1)).fmod 2147482763
    let b' := (base * (base.fmod 12007 + 70001) + 71 * (c + 1) + 31).fmod 2147482763
    have s1 : ∀ x : Int, small64 (x.fmod 12007 + 70001) = true := fun x => by
      have p1 := Int.fmod_nonneg_of_pos x (show (0 : Int) < 12007 by omega)
      have p2 := Int.fmod_lt_of_pos x (show (0 : Int) < 12007 by omega)
      exact small_of (by omega) (by omega)
    have s2 : small64 47017 = true := by decide
    have s3 : small64 71 = true := by decide
    have ht : top ≠ 0 := by omega
    refine ⟨(b'.fdiv 197).fmod top, a, b', c + 1, Int.fmod_nonneg_of_pos _ h1, Int.fmod_lt_of_pos _ h1, ?_⟩
    simp [fnD, tT, f11, runF, exs, ex, evT, ev, evs, asP, asDs, asD, putNm, Pv.putAt, keep, deref, derefs, cmp2, op2, op1, cmpD, idxD, atD, biD, binD, setD, Cel.d, ha, h1, h2, s1, s2, s3, ht]
    exact ⟨rfl, rfl⟩
/-- the cask -/
def mixF (C : Cl) : D → St → R Fl := fun d s => (asD C (.tup (.cons (.nm 4) (.cons (.nm 5) .nil))) d s).bind fun _ s => exs C (.cons (.asg (.nm 3) (.bin .Mod (.bi .int (.cons (.bin .Add (.bin .Mult (.loc 3) (.bin .Add (.lit (.int 12011)) (.bin .Mult (.lit (.int 66)) (.loc 4)))) (.bin .Mult (.lit (.int 29)) (.loc 5))) .nil)) (.lit (.int 2147482763)))) .nil) s
theorem mix1 (C : Cl) (sl0 sl1 sl2 : Slot) (ob : List Ob) (ce : List Cel) (n : Int) (k : Nat) (r : Int) (x y : Slot) (h : k < 8) : mixF C (.tup [.int k, .int n]) ⟨[sl0, sl1, sl2, .va (.int r), x, y], ce, ob⟩ =
    .ok .nx ⟨[sl0, sl1, sl2, .va (.int ((r * (12011 + 66 * k) + 29 * n).fmod 2147482763)), .va (.int k), .va (.int n)], ce, ob⟩ := by
  have s1 : small64 (12011 + 66 * (k : Int)) = true := small_of (by omega) (by omega)
  have s2 : small64 66 = true := by decide
  have s3 : small64 29 = true := by decide
  simp [mixF, exs, ex, ev, evs, asP, asDs, asD, putNm, deref, derefs, op2, op1, biD, binD, s1, s2, s3]
theorem mix (C : Cl) (sl0 sl1 sl2 : Slot) (ob : List Ob) (ce : List Cel) : ∀ (ns : List Int) (k : Nat) (r : Int) (x y : Slot), k + ns.length ≤ 8 → ∃ (r' : Int) (x' y' : Slot),
    frLoop (mixF C) (enumD k (ns.map D.int)) ⟨[sl0, sl1, sl2, .va (.int r), x, y], ce, ob⟩ = .ok .nx ⟨[sl0, sl1, sl2, .va (.int r'), x', y'], ce, ob⟩
  | [], k, r, x, y, _ => ⟨r, x, y, rfl⟩
  | n :: ns, k, r, x, y, h => by
    rw [List.length_cons] at h
    obtain ⟨r', x', y', e⟩ := mix C sl0 sl1 sl2 ob ce ns (k + 1) ((r * (12011 + 66 * k) + 29 * n).fmod 2147482763) (.va (.int k)) (.va (.int n)) (by omega)
    refine ⟨r', x', y', ?_⟩
    simp only [List.map_cons, enumD, frLoop]
    rw [mix1 _ _ _ _ _ _ _ _ _ _ _ (by omega)]
    exact e
theorem cask_ok (n : Nat) (ns : List Int) (turn : Nat) (ht : turn < 4) : ∃ a b : Int, fnD tT tG (n + 1) 10 [.bo (.scr (ns.map D.int)), .va (.int turn)] [] [] = .ok (.lst [.int a, .int b, .int 0]) true [] [] := by
  have s1 : small64 80021 = true := by decide
  have s2 : small64 27011 = true := by decide
  have s3 : smallSh 10 15 = true := by decide
  have cut : cutD (ns.map D.int) none (some 8) = (ns.take 8).map D.int := by
    unfold cutD six
    simp
  show ∃ a b : Int, runF ⟨fnD tT tG n, moD tT, tG⟩ f10 [.bo (.scr (ns.map D.int)), .va (.int turn)] [] [] = _
  generalize (⟨fnD tT tG n, moD tT, tG⟩ : Cl) = C
  have k1 : ∃ c : Int, ex C (.asgs (.cons (.nm 2) (.cons (.nm 3) .nil)) (.cons (.ife (.cmp .Lt (.loc 1) (.bi .len (.cons (.loc 0) .nil))) (.idx (.loc 0) (.loc 1)) (.lit (.int 0))) (.cons (.bin .Add (.lit (.int 11003)) (.bin .Mult (.lit (.int 80021)) (.loc 1))) .nil))) ⟨[.bo (.scr (ns.map D.int)), .va (.int turn), .un, .un, .un, .un], [], []⟩ =
      .ok .nx ⟨[.bo (.scr (ns.map D.int)), .va (.int turn), .va (.int c), .va (.int (11003 + 80021 * turn)), .un, .un], [], []⟩ := by
    by_cases h : turn < ns.length
    · refine ⟨ns[turn], ?_⟩
      have h' : (turn : Int) < (ns.length : Int) := by omega
      simp [ex, ev, evT, evs, asPs, asP, allocs, Pv.alloc, putNm, deref, derefs, op2, op1, cmp2, cmpD, biD, binD, idxD, atD, s1, h, h']
    · have h' : ¬ (turn : Int) < (ns.length : Int) := by omega
      exact ⟨0, by simp [ex, ev, evT, evs, asPs, asP, allocs, Pv.alloc, putNm, deref, derefs, op2, op1, cmp2, cmpD, biD, binD, idxD, atD, s1, h, h']⟩
  obtain ⟨c, k1⟩ := k1
  obtain ⟨r', x', y', k2⟩ := mix C (.bo (.scr (ns.map D.int))) (.va (.int turn)) (.va (.int c)) [] [] (ns.take 8) 0 (11003 + 80021 * turn) .un .un (by simp; omega)
  have k3 : ex C (.fr (.tup (.cons (.nm 4) (.cons (.nm 5) .nil))) (.enum (.slc (.loc 0) .no (.so (.lit (.int 8))))) (.cons (.asg (.nm 3) (.bin .Mod (.bi .int (.cons (.bin .Add (.bin .Mult (.loc 3) (.bin .Add (.lit (.int 12011)) (.bin .Mult (.lit (.int 66)) (.loc 4)))) (.bin .Mult (.lit (.int 29)) (.loc 5))) .nil)) (.lit (.int 2147482763)))) .nil)) ⟨[.bo (.scr (ns.map D.int)), .va (.int turn), .va (.int c), .va (.int (11003 + 80021 * turn)), .un, .un], [], []⟩ =
      .ok .nx ⟨[.bo (.scr (ns.map D.int)), .va (.int turn), .va (.int c), .va (.int r'), x', y'], [], []⟩ := by
    simp only [ex, evIt, ev, evo, List.getElem?_cons_zero, Pv.R.bind_ok, deref, isI, Option.bind_some, Option.map_some, Pv.R.of_some, op1, slcD, cut, itD, hold]
    have k2' : frLoop (fun d s => (asD C (.tup (.cons (.nm 4) (.cons (.nm 5) .nil))) d s).bind fun _ s => exs C (.cons (.asg (.nm 3) (.bin .Mod (.bi .int (.cons (.bin .Add (.bin .Mult (.loc 3) (.bin .Add (.lit (.int 12011)) (.bin .Mult (.lit (.int 66)) (.loc 4)))) (.bin .Mult (.lit (.int 29)) (.loc 5))) .nil)) (.lit (.int 2147482763)))) .nil) s) _ _ = _ := k2
    rw [k2']
    rfl
  have k4 : ∃ a b : Int, exs C (.cons (.ret (.lst (.cons (.ife (.or (.cmp .Lt (.loc 2) (.lit (.int 0))) (.cmp .GtE (.loc 2) (.bin .Pow (.lit (.int 10)) (.lit (.int 15))))) (.bi .abs (.cons (.loc 2) .nil)) (.lit (.int 0))) (.cons (.bin .Mod (.bi .int (.cons (.bin .Add (.loc 3) (.bin .Mult (.lit (.int 27011)) (.loc 2))) .nil)) (.lit (.int 2147482763))) (.cons (.lit (.int 0)) .nil))))) .nil) ⟨[.bo (.scr (ns.map D.int)), .va (.int turn), .va (.int c), .va (.int r'), x', y'], [], []⟩ =
      .ok (.rt (.pv (.lst [.int a, .int b, .int 0]) true)) ⟨[.bo (.scr (ns.map D.int)), .va (.int turn), .va (.int c), .va (.int r'), x', y'], [], []⟩ := by
    by_cases h1 : c < 0
    · refine ⟨-c, (r' + 27011 * c).fmod 2147482763, ?_⟩
      simp [exs, ex, ev, evT, evs, keeps, keep, deref, derefs, op2, op1, cmp2, cmpD, biD, binD, s2, s3, h1, lim]
    · by_cases h2 : (10 : Int) ^ 15 ≤ c
      · refine ⟨c, (r' + 27011 * c).fmod 2147482763, ?_⟩
        have h2' : (1000000000000000 : Int) ≤ c := by omega
        simp [exs, ex, ev, evT, evs, keeps, keep, deref, derefs, op2, op1, cmp2, cmpD, biD, binD, s2, s3, h1, h2', lim]
      · refine ⟨0, (r' + 27011 * c).fmod 2147482763, ?_⟩
        have h2' : ¬ (1000000000000000 : Int) ≤ c := by omega
        simp [exs, ex, ev, evT, evs, keeps, keep, deref, derefs, op2, op1, cmp2, cmpD, biD, binD, s2, s3, h1, h2', lim]
  obtain ⟨a, b, k4⟩ := k4
  refine ⟨a, b, ?_⟩
  have k5 : exs C f10.body ⟨[.bo (.scr (ns.map D.int)), .va (.int turn)] ++ List.replicate (f10.nl - f10.np) .un, [], []⟩ = .ok (.rt (.pv (.lst [.int a, .int b, .int 0]) true)) ⟨[.bo (.scr (ns.map D.int)), .va (.int turn), .va (.int c), .va (.int r'), x', y'], [], []⟩ := by
    show exs C (.cons _ (.cons _ _)) ⟨[.bo (.scr (ns.map D.int)), .va (.int turn), .un, .un, .un, .un], [], []⟩ = _
    rw [exs, k1]
    simp only [Pv.R.bind_ok]
    rw [exs, k3]
    simp only [Pv.R.bind_ok]
    exact k4
  unfold runF
  rw [k5]
  rfl
/-! the closed runs -/
def okT : Rf → Bool
  | .ok (.bl true) false [] [] => true
  | _ => false
theorem okT_is {r : Rf} (h : okT r = true) : r = .ok (.bl true) false [] [] := by
  unfold okT at h
  split at h
  · rfl
  · cases h
theorem known (n : Int) (h : 3 ≤ n) (h2 : n ≤ 8) : fnD tT tG 18 14 [.va (.int n)] [] [] = .ok (.bl true) false [] [] := by
  have : n = 3 ∨ n = 4 ∨ n = 5 ∨ n = 6 ∨ n = 7 ∨ n = 8 := by omega
  rcases this with rfl | rfl | rfl | rfl | rfl | rfl <;> exact okT_is (by decide +kernel)
theorem full (n : Int) (h : 2 ≤ n) (h2 : n ≤ 6) : fnD tT tG 18 15 [.va (.int n)] [] [] = .ok (.bl true) false [] [] := by
  have : n = 2 ∨ n = 3 ∨ n = 4 ∨ n = 5 ∨ n = 6 := by omega
  rcases this with rfl | rfl | rfl | rfl | rfl <;> exact okT_is (by decide +kernel)
end Lk58

set_option Elab.async false
set_option linter.all false
set_option maxRecDepth 100000
set_option maxHeartbeats 0
namespace Lk58
open PySem Pv
mutual
def eqT : D → D → Bool
  | .int i, .int j => decide (i = j)
  | .tup xs, .tup ys => eqTs xs ys
  | _, _ => false
def eqTs : List D → List D → Bool
  | [], [] => true
  | x :: xs, y :: ys => eqT x y && eqTs xs ys
  | _, _ => false
end
mutual
theorem eqT_is : ∀ {x y : D}, eqT x y = true → x = y
  | .int i, .int j, h => by rw [of_decide_eq_true h]
  | .tup xs, .tup ys, h => by rw [eqTs_is h]
  | .int _, .tup _, h | .int _, .non, h | .int _, .bl _, h | .int _, .str _, h | .int _, .lst _, h | .int _, .dct _ _, h | .int _, .st _, h | .int _, .ty _, h | .int _, .fn _, h | .int _, .cls _, h | .int _, .obj _, h | .int _, .scr _, h | .int _, .kt _, h => nomatch h
  | .tup _, .int _, h | .tup _, .non, h | .tup _, .bl _, h | .tup _, .str _, h | .tup _, .lst _, h | .tup _, .dct _ _, h | .tup _, .st _, h | .tup _, .ty _, h | .tup _, .fn _, h | .tup _, .cls _, h | .tup _, .obj _, h | .tup _, .scr _, h | .tup _, .kt _, h => nomatch h
  | .non, _, h => by cases h
  | .bl _, _, h => by cases h
  | .str _, _, h => by cases h
  | .lst _, _, h => by cases h
  | .dct _ _, _, h => by cases h
  | .st _, _, h => by cases h
  | .ty _, _, h => by cases h
  | .fn _, _, h => by cases h
  | .cls _, _, h => by cases h
  | .obj _, _, h => by cases h
  | .scr _, _, h => by cases h
  | .kt _, _, h => by cases h
theorem eqTs_is : ∀ {xs ys : List D}, eqTs xs ys = true → xs = ys
  | [], [], _ => rfl
  | [], _ :: _, h => nomatch h
  | _ :: _, [], h => nomatch h
  | x :: xs, y :: ys, h => by
    obtain ⟨h1, h2⟩ := Bool.and_eq_true_iff.mp h
    rw [eqT_is h1, eqTs_is h2]
end
def resT (d : D) : Rf → Bool
  | .ok x false [] [] => eqT x d
  | _ => false
theorem resT_is {d : D} {r : Rf} (h : resT d r = true) : r = .ok d false [] [] := by
  unfold resT at h
  split at h
  · rw [eqT_is h]
  · cases h
def t1 (a : Int) : D := .tup [.int a]
def t2 (a b : Int) : D := .tup [.int a, .int b]
def rowD (k : Int) : D := .tup [t1 (0 + k), t1 (1 + k), t1 (2 + k), t2 (0 + k) (1 + k), t2 (1 + k) (2 + k), t2 (0 + k) (2 + k), t1 (3 + k), t1 (4 + k), t2 (0 + k) (3 + k), t2 (3 + k) (4 + k), t2 (0 + k) (4 + k), .tup [.int (0 + k), .int (1 + k), .int (2 + k)]]
def dA : D := .tup [t2 1 3, t2 2 4, t2 5 11, t2 6 8, t2 7 9]
def dB : D := t1 10
theorem rowA (k : Int) (h : 0 ≤ k) (h2 : k < 5) : fnD tT tG 18 8 [.va (rowD k)] [] [] = .ok dA false [] [] := by
  have : k = 0 ∨ k = 1 ∨ k = 2 ∨ k = 3 ∨ k = 4 := by omega
  rcases this with rfl | rfl | rfl | rfl | rfl <;> exact resT_is (by decide +kernel)
theorem rowB (k : Int) (h : 0 ≤ k) (h2 : k < 5) : fnD tT tG 18 9 [.va (rowD k)] [] [] = .ok dB false [] [] := by
  have : k = 0 ∨ k = 1 ∨ k = 2 ∨ k = 3 ∨ k = 4 := by omega
  rcases this with rfl | rfl | rfl | rfl | rfl <;> exact resT_is (by decide +kernel)
theorem m8 : moD tT 8 = [true] := rfl
theorem m9 : moD tT 9 = [true] := rfl
theorem m11 : moD tT 11 = [false, true] := rfl
theorem m14 : moD tT 14 = [true] := rfl
theorem m15 : moD tT 15 = [true] := rfl
theorem m16 : moD tT 16 = [false] := rfl
theorem m10 : moD tT 10 = [true, true] := rfl
theorem right_ok (a b c : Int) : ∃ ce, fnD tT tG 19 16 [.ce 0] [.ow (.lst [.int a, .int b, .int c])] [] = .ok (.bl true) false ce [] := by
  obtain ⟨x1, a1, b1, c1, p1, q1, h1⟩ := tap_ok 17 a b c 6 (by omega) (by omega)
  obtain ⟨x2, a2, b2, c2, p2, q2, h2⟩ := tap_ok 17 a1 b1 c1 5 (by omega) (by omega)
  obtain ⟨x3, a3, b3, c3, p3, q3, h3⟩ := tap_ok 17 a2 b2 c2 5 (by omega) (by omega)
  have k1 := known (3 + x1) (by omega) (by omega)
  have k2 := full (2 + x3) (by omega) (by omega)
  have r1 := rowA 0 (by omega) (by omega)
  have r2 := rowB 0 (by omega) (by omega)
  have r3 := rowA x2 p2 q2
  have r4 := rowB x2 p2 q2
  simp only [rowD, t1, t2, Int.zero_add, Int.add_zero] at r1 r2 r3 r4
  simp only [show (17 + 1 : Nat) = 18 from rfl] at h1 h2 h3
  have hs : sameD (.lst [dA, dB]) (.lst [dA, dB]) = some true := by decide +kernel
  simp only [dA, dB, t1, t2] at hs
  show ∃ ce, runF ⟨fnD tT tG 18, moD tT, tG⟩ f16 [.ce 0] [.ow (.lst [.int a, .int b, .int c])] [] = _
  refine ⟨[.ow (.lst [.int a3, .int b3, .int c3])], ?_⟩
  simp [runF, f16, exs, ex, ev, evT, evs, evIt, evTo, asP, asDs, asD, putNm, callF, binds, bind1, backs, m11, m14, m15, h1, h2, h3, k1, k2, keeps, keep, deref, derefs, op2, op1, binD, truthD, lim, biD, lcLoop, noEx, itD, hold, wipes, Pv.letGo, Cel.d, cmp2, cmpD, hs, isBl, m8, m9, r1, r2, r3, r4, dA, dB, t1, t2]
def scs (ns : List Int) : D := .scr (ns.map D.int)
theorem turns (C : Cl) (hC : C = ⟨fnD tT tG 19, moD tT, tG⟩) (ns : List Int) (ce0 : List Cel) (m : Nat) : ∀ (k : Nat) (x : Slot) (y : Slot), k + m ≤ 4 → ∃ (ys : List D),
    bls ys = some (List.replicate m true) ∧ ys.length = m ∧ lcLoop (fun d s => (asD C (.nm 2) d { s with sl := [.bo (scs ns), x, .un] }).bind fun _ s => (evTo C .no s).bind fun k s => if k then (ev C (.call 16 (.cons (.call 10 (.cons (.loc 0) (.cons (.loc 2) .nil))) .nil)) s).bind fun p s => (keep p s).bind fun y s => .ok (some y) s else .ok none s)
      (rngD k m) ⟨[.bo (scs ns), x, y], ce0, []⟩ = .ok ys ⟨[.bo (scs ns), x, if m = 0 then y else .va (.int (k + m - 1 : Nat))], ce0, []⟩ := by
  subst hC
  induction m with
  | zero => intro k x y _; exact ⟨[], rfl, rfl, by simp [rngD, lcLoop]⟩
  | succ m ih =>
    intro k x y h
    obtain ⟨ys, e1, e2, e3⟩ := ih (k + 1) x (.va (.int k)) (by omega)
    obtain ⟨a, b, hc⟩ := cask_ok 18 ns k (by omega)
    obtain ⟨ce, hr⟩ := right_ok a b 0
    refine ⟨.bl true :: ys, by simp [bls, e1, List.replicate_succ], by simp [e2], ?_⟩
    have hc' : fnD tT tG 19 10 [.bo (scs ns), .va (.int k)] [] [] = .ok (.lst [.int a, .int b, .int 0]) true [] [] := hc
    have hr' : fnD tT tG 19 16 [.ce 0] [.ow (.lst [.int a, .int b, .int 0])] [] = .ok (.bl true) false ce [] := hr
    have hs : scal (scs ns) = false := rfl
    have hb : ∀ q : List Cel, backs [none] q ce0 = ce0 := fun q => by cases q <;> simp [backs]
    have step : ((asD (⟨fnD tT tG 19, moD tT, tG⟩ : Cl) (.nm 2) (.int k) ⟨[.bo (scs ns), x, .un], ce0, []⟩).bind fun _ s => (evTo (⟨fnD tT tG 19, moD tT, tG⟩ : Cl) .no s).bind fun k s => if k then (ev (⟨fnD tT tG 19, moD tT, tG⟩ : Cl) (.call 16 (.cons (.call 10 (.cons (.loc 0) (.cons (.loc 2) .nil))) .nil)) s).bind fun p s => (keep p s).bind fun y s => .ok (some y) s else .ok none s) =
        .ok (some (.bl true)) ⟨[.bo (scs ns), x, .va (.int k)], ce0, []⟩ := by
      simp [asD, putNm, evTo, ev, evs, callF, binds, bind1, m10, m16, hs, hc', hr', hb, keep, backs]
    have e3' := e3
    have ek : (k : Int) + 1 = ((k + 1 : Nat) : Int) := by push_cast; rfl
    simp only [rngD, lcLoop]
    rw [step]
    simp only [Pv.R.bind_ok, ek]
    rw [e3']
    simp only [Pv.R.bind_ok]
    congr 5
    by_cases hm : m = 0
    · subst hm; simp
    · simp only [hm, if_false]
      simp
end Lk58

set_option Elab.async false
set_option linter.all false
set_option maxRecDepth 100000
set_option maxHeartbeats 0
namespace Lk58
open PySem Pv
theorem hmin (n : Nat) : biD .min [.int n, .int 4] = some (.int (if (4 : Int) < n then 4 else n), false) := rfl
theorem hlen (ns : List Int) : biD .len [scs ns] = some (.int ns.length, false) := by
  have : (ns.map D.int).length = ns.length := List.length_map ..
  show some (D.int ((ns.map D.int).length : Nat), false) = _
  rw [this]
end Lk58

set_option Elab.async false
set_option linter.all false
set_option maxRecDepth 100000
set_option maxHeartbeats 0
namespace Lk58
open PySem Pv
theorem rg_ok (m : Nat) (hm : m ≤ 4) : rngOf [.int m] = some (rngD 0 m) := by
  have h1 : -(2 ^ 62) ≤ (m : Int) := by omega
  have h2 : (m : Int) < 2 ^ 62 := by omega
  simp only [rngOf, decide_eq_true h1, decide_eq_true h2, Bool.and_self, if_true, Int.toNat_natCast]
theorem it_ok (C : Cl) (S : D) (x y z : D) (r : List D) (sl : List Slot) (ce0 : List Cel) (a1 : biD .len [S] = some (x, false)) (a2 : biD .min [x, .int 4] = some (y, false)) (a3 : biD .max [.int 2, y] = some (z, false)) (a4 : rngOf [z] = some r) :
    evIt C (.rng (.cons (.bi .max (.cons (.lit (.int 2)) (.cons (.bi .min (.cons (.bi .len (.cons (.loc 0) .nil)) (.cons (.lit (.int 4)) .nil))) .nil))) .nil)) ⟨.bo S :: sl, ce0, []⟩ = .ok (r, []) ⟨.bo S :: sl, ce0, []⟩ := by
  simp only [evIt, ev, evs, List.getElem?_cons_zero, Pv.R.bind_ok, derefs, deref, Option.map_some, Option.bind_some, a1, a2, a3, a4, Pv.R.of_some]
end Lk58

set_option Elab.async false
set_option linter.all false
set_option maxRecDepth 100000
set_option maxHeartbeats 0
namespace Lk58
open PySem Pv
theorem fn_succ (n f : Nat) (F : Fn) (sl : List Slot) (ce : List Cel) (ob : List Ob) (hF : tT f = some F) (hl : sl.length = F.np) : fnD tT tG (n + 1) f sl ce ob = runF ⟨fnD tT tG n, moD tT, tG⟩ F sl ce ob := by
  simp only [fnD, hF, hl, if_true]
theorem a1 : fnD tT tG 19 8 [.va (.tup [.tup [.int 7]])] [] [] = .ok (.tup []) false [] [] := resT_is (by decide +kernel)
theorem a2 : fnD tT tG 19 9 [.va (.tup [.tup [.int 7]])] [] [] = .ok (.tup []) false [] [] := resT_is (by decide +kernel)
theorem a3 : fnD tT tG 19 8 [.va (.tup [.tup [.int 7], .tup [.int 3], .tup [.int 3, .int 7]])] [] [] = .ok (.tup [.tup [.int 1, .int 2]]) false [] [] := resT_is (by decide +kernel)
theorem a4 : fnD tT tG 19 9 [.va (.tup [.tup [.int 7], .tup [.int 3]])] [] [] = .ok (.tup [.int 1]) false [] [] := resT_is (by decide +kernel)
theorem hsame : sameD (.lst [.tup [], .tup [], .tup [.tup [.int 1, .int 2]], .tup [.int 1]]) (.lst [.tup [], .tup [], .tup [.tup [.int 1, .int 2]], .tup [.int 1]]) = some true := by decide +kernel
def told : D := .lst [.tup [], .tup [], .tup [.tup [.int 1, .int 2]], .tup [.int 1]]
theorem law1 (C : Cl) (hC : C = ⟨fnD tT tG 19, moD tT, tG⟩) (ns : List Int) : exs C f17.body ⟨[.bo (scs ns), .un, .un], [], []⟩ =
    ((ev C (.bi .all (.cons (.lc (.nm 2) (.rng (.cons (.bi .max (.cons (.lit (.int 2)) (.cons (.bi .min (.cons (.bi .len (.cons (.loc 0) .nil)) (.cons (.lit (.int 4)) .nil))) .nil))) .nil)) .no (.call 16 (.cons (.call 10 (.cons (.loc 0) (.cons (.loc 2) .nil))) .nil)) [2]) .nil)) ⟨[.bo (scs ns), .ce 0, .un], [.ow told], []⟩).bind fun p s => .ok (.rt p) s) := by
  subst hC
  show exs _ (.cons _ (.cons _ (.cons (.ret (.bi .all _)) .nil))) _ = _
  generalize (E.bi Bi.all _) = last
  simp [exs, ex, ev, evT, evs, asP, putNm, callF, binds, bind1, backs, m8, m9, a1, a2, a3, a4, keeps, keep, deref, derefs, lim, Cel.d, cmp2, cmpD, hsame, told]
  cases ev (⟨fnD tT tG 19, moD tT, tG⟩ : Cl) last _ <;> rfl
theorem run_ret (C : Cl) (F : Fn) (sl : List Slot) (s' : St) (h : exs C F.body ⟨sl ++ List.replicate (F.nl - F.np) .un, [], []⟩ = .ok (.rt (.pv (.bl true) false)) s') (ho : s'.ob = []) : runF C F sl [] [] = .ok (.bl true) false [] [] := by
  unfold runF
  rw [h]
  simp [ho]
theorem hmax (y z : Int) (h : (if 2 < y then y else 2) = z) : biD .max [.int 2, .int y] = some (.int z, false) := by
  rw [← h]
  rfl
theorem law_run (ns : List Int) : runF ⟨fnD tT tG 19, moD tT, tG⟩ f17 [.bo (scs ns)] [] [] = .ok (.bl true) false [] [] := by
  have h1 := law1 _ rfl ns
  obtain ⟨m, hm, hr⟩ : ∃ m : Nat, m ≤ 4 ∧ (if (2 : Int) < (if (4 : Int) < (ns.length : Int) then (4 : Int) else ns.length) then (if (4 : Int) < (ns.length : Int) then (4 : Int) else ns.length) else 2) = (m : Int) := by
    by_cases q : (4 : Int) < (ns.length : Int)
    · exact ⟨4, by omega, by simp [q]⟩
    · by_cases q2 : (2 : Int) < (ns.length : Int)
      · exact ⟨ns.length, by omega, by simp [q, q2]⟩
      · exact ⟨2, by omega, by simp [q, q2]⟩
  obtain ⟨ys, e1, e2, e3⟩ := turns _ rfl ns [.ow told] m 0 (.ce 0) .un (by omega)
  have hlast : ev (⟨fnD tT tG 19, moD tT, tG⟩ : Cl) (.bi .all (.cons (.lc (.nm 2) (.rng (.cons (.bi .max (.cons (.lit (.int 2)) (.cons (.bi .min (.cons (.bi .len (.cons (.loc 0) .nil)) (.cons (.lit (.int 4)) .nil))) .nil))) .nil)) .no (.call 16 (.cons (.call 10 (.cons (.loc 0) (.cons (.loc 2) .nil))) .nil)) [2]) .nil)) ⟨[.bo (scs ns), .ce 0, .un], [.ow told], []⟩ = .ok (.pv (.bl true) false) ⟨[.bo (scs ns), .ce 0, .un], [.ow told], []⟩ := by
    generalize (⟨fnD tT tG 19, moD tT, tG⟩ : Cl) = C at e3 ⊢
    generalize (E.call 16 _) = e16 at e3 ⊢
    have hrg := rg_ok m hm
    have hlim : ys.length ≤ lim := by rw [e2]; unfold lim; omega
    have hall : biD .all [.lst ys] = some (.bl true, false) := by
      simp [biD, e1]
    have hit := it_ok C (scs ns) (.int ns.length) (.int (if (4 : Int) < ns.length then 4 else ns.length)) (.int m) (rngD 0 m) [.ce 0, .un] [.ow told] (hlen ns) (hmin ns.length) (hmax _ _ hr) (rg_ok m hm)
    have hlc : ev C (.lc (.nm 2) (.rng (.cons (.bi .max (.cons (.lit (.int 2)) (.cons (.bi .min (.cons (.bi .len (.cons (.loc 0) .nil)) (.cons (.lit (.int 4)) .nil))) .nil))) .nil)) .no e16 [2]) ⟨[.bo (scs ns), .ce 0, .un], [.ow told], []⟩ = .ok (.pv (.lst ys) true) ⟨[.bo (scs ns), .ce 0, .un], [.ow told], []⟩ := by
      rw [ev, hit]
      simp only [Pv.R.bind_ok]
      have e3' : lcLoop (fun d s => (asD C (.nm 2) d { s with sl := wipes [.bo (scs ns), .ce 0, .un] [2] }).bind fun _ s => (evTo C .no s).bind fun k s => if k then (ev C e16 s).bind fun p s => (keep p s).bind fun y s => .ok (some y) s else .ok none s) (rngD 0 m) ⟨[.bo (scs ns), .ce 0, .un], [.ow told], []⟩ = _ := e3
      rw [e3']
      simp only [noEx, Pv.R.bind_ok]
      rw [if_pos hlim]
      rfl
    rw [ev, evs, hlc]
    simp only [Pv.R.bind_ok, evs, derefs, deref, Option.map_some, Option.bind_some, hall, Pv.R.of_some]
  rw [hlast] at h1
  simp only [Pv.R.bind_ok] at h1
  exact run_ret _ f17 [.bo (scs ns)] _ h1 rfl
end Lk58

set_option Elab.async false
set_option linter.all false
set_option maxRecDepth 100000
set_option maxHeartbeats 0
namespace Lk58
open PySem Pv
theorem law_ok (ns : List Int) (n : Nat) (h : n = 19 + 1) : fnD tT tG n 17 [.bo (scs ns)] [] [] = .ok (.bl true) false [] [] := by
  subst h
  exact (fn_succ 19 17 f17 [.bo (scs ns)] [] [] rfl rfl).trans (law_run ns)
end Lk58

set_option Elab.async false
set_option linter.all false
set_option maxRecDepth 100000
set_option maxHeartbeats 0
namespace Lk58
open PySem Pv L2
theorem reps_ints {ρ F} : ∀ ns : List Int, Reps ρ F (ns.map V.int) (ns.map D.int)
  | [] => .nil
  | n :: ns => .cons (.int n) (reps_ints ns)
theorem po_ok {Z : Pm} {g : Gh} {H : Hp} {r : Rf} {E : XK} (e : r = .ok (.bl true) false [] []) : PoF Z g H r (fun v _ => v = .bl true) E := by
  subst e
  intro g' H' v _ _ o _
  cases o with
  | va r =>
    cases r with
    | bl => rfl
    | con c _ _ => exact nomatch c
theorem sp_gen (C : Cl) {K : PySem.W.Frag} {W : WX} {ec : Nat → Option (Value × List Str)} {H : Hp} {a : Addr} {ns : List Int} (hC : C.fn 17 [.bo (scs ns)] [] [] = .ok (.bl true) false [] []) (hO : Only H) (hS : SqL K H a (ns.map V.int)) : spF ⟨K, W, ec⟩ C 17 1 [.ref a] H (fun v _ => v = .bl true) fun _ _ _ => False := by
  have hb : Bo K ⟨[], H, []⟩ H (.ref a) (scs ns) := by
    rcases hS with (h | ⟨u, h⟩) | h
    · rcases hO a with z | ⟨o, xs, z⟩
      · rw [h] at z; cases z
      · rw [h] at z; cases z
    · exact .rep (.scr h (reps_ints ns))
    · exact .ws (fun H' => .inr h) (fun d hd => by
        obtain ⟨n, _, rfl⟩ := List.mem_map.mp hd
        rfl) (reps_ints ns)
  refine ⟨rfl, ⟨[], H, []⟩, ⟨[.bo (scs ns)], [], []⟩, ⟨⟨.refl H, rfl, fun k c b e => by simp at e, List.nodup_nil, fun b z => by simp at z, fun b z => by simp at z, ⟨rfl, rfl⟩⟩, rfl, fun i x e => ?_⟩, ?_⟩
  · match i, e with
    | 0, e => cases e; exact ⟨.ref a, rfl, hb⟩
    | i + 1, e => simp at e
  · exact po_ok hC
theorem Cfn (k : Nat) : (B.C k).fn = fnD tT tG k := rfl
theorem sp_ok {K : PySem.W.Frag} {W : WX} {ec : Nat → Option (Value × List Str)} {H : Hp} {a : Addr} {ns : List Int} (n : Nat) (hn : n = 19 + 1) (hO : Only H) (hS : SqL K H a (ns.map V.int)) : spF ⟨K, W, ec⟩ (B.C n) 17 1 [.ref a] H (fun v _ => v = .bl true) fun _ _ _ => False :=
  sp_gen (B.C n) (by rw [Cfn]; exact law_ok ns n hn) hO hS
end Lk58

set_option Elab.async false
set_option linter.all false
namespace Lk58
open PySem L2 Pv PyProof.Rows
theorem cx_no {P : Program} {w : World} {H : Hp} {s : Shared} {e : Value} {s' : Shared} (z : L2.CX P w [] H s (fun _ _ _ => False) e s') : False := by
  obtain ⟨_, _, _, _, _, _, _, _, _, _, _, _, _, _, _, z⟩ := z
theorem walk {l : PySem.W.OpenLaw} {q : Program} {loose : List Str} {XP : (Str → Option Value) → Heap → Prop} {YP : World → Heap → Prop} {d : DefRec} {K : Params → PySem.W.Frag} (hn : l.most = some 63) (hdf : d.params.defaults = [])
    (hY : ∀ (w : World) (h : Heap), YP w h → (K w.params).In h)
    (F : ∀ (w : World) (mg : Str → Option Value) (fa : Addr) (h : Heap), (K w.params).In h → h.Ns mainGlobals mg → mg d.name = some (.ref fa) →
      ∃ fd : FuncData, (∀ (s : Shared) (u : Value), BindsTo s fd ⟨[u], []⟩ [("script", u)]) ∧ ∀ base : Heap, (K w.params).In base → base.Ns mainGlobals mg → FnOk l.prog w (K w.params) mg base (L2.CX l.prog w) 20 fa fd ["script"] (spF ⟨K w.params, fun _ _ _ _ => False, fun _ => none⟩ (B.C 20) 17 1)) :
    PySem.W.WalkO q loose XP YP l.row.toRowW d [] (fun f vs => PySem.call f vs) :=
  L2.walk_of (n := 63) (k := 20) (x := "script") (CX := fun w => L2.CX l.prog w) (sp := fun w => spF ⟨K w.params, fun _ _ _ _ => False, fun _ => none⟩ (B.C 20) 17 1) hn (by decide) hdf ⟨rfl, by decide, by decide⟩ hY F (fun w H a ns hl hO hS => sp_ok 20 rfl hO hS) fun _ _ _ _ _ z => cx_no z
end Lk58
open PySem PySem.W PyProof.Rows
set_option maxRecDepth 100000 in
set_option maxHeartbeats 0 in
theorem PySem.Challenge.cw_facesholes_k58_known_births_holds : PySem.Challenge.rw_facesholes_k58_known_births.Holds := by
  w_on; o_law; k_head; (case hw => w_witness2)
  k_fill
  refine Lk58.walk (l := PySem.Challenge.rw_facesholes_k58_known_births) rfl rfl (fun w h Y => PySem.W.kIn_of Y) ?F
  case F =>
    intro w mg fa h KX G hmg
    refine' Lk58.all_mk KX G hmg ?pva0 ?pvl0 ?pvc0 ?pvk0 ?pva1 ?pvl1 ?pvc1 ?pvk1 ?pva2 ?pvl2 ?pvc2 ?pvk2 ?pva3 ?pvl3 ?pvc3 ?pvk3 ?pva4 ?pvl4 ?pvc4 ?pvk4 ?pva5 ?pvl5 ?pvc5 ?pvk5 ?pva6 ?pvl6 ?pvc6 ?pvk6 ?pva7 ?pvl7 ?pvc7 ?pvk7 ?pva8 ?pvl8 ?pvc8 ?pvk8 ?pva9 ?pvl9 ?pvc9 ?pvk9 ?pva10 ?pvl10 ?pvc10 ?pvk10 ?pva11 ?pvl11 ?pvc11 ?pvk11 ?pva12 ?pvl12 ?pvc12 ?pvk12 ?pva13 ?pvl13 ?pvc13 ?pvk13 ?pva14 ?pvl14 ?pvc14 ?pvk14 ?pva15 ?pvl15 ?pvc15 ?pvk15 ?pva16 ?pvl16 ?pvc16 ?pvk16 ?pva17 ?pvl17 ?pvc17 ?pvk17 ?pvg0 ?pvg1 ?pvz0 ?pvz1 ?pvz2 ?pvz3 ?pvz4 ?pvz5 ?pvz6 ?pvz7 ?pvz8 ?pvz9 ?pvz10 ?pvz11 ?pvz12 ?pvz13 ?pvz14 ?pvz15 ?pvz16 ?pvz17 ?pvz18 ?pvz19 (fun _ => none) (fun _ _ _ _ => False) 20
    (case pva0 => k_is)
    (case pvl0 => k_is)
    (case pvc0 => k_is)
    (case pvk0 => k_is)
    (case pva1 => k_is)
    (case pvl1 => k_is)
    (case pvc1 => k_is)
    (case pvk1 => k_is)
    (case pva2 => k_is)
    (case pvl2 => k_is)
    (case pvc2 => k_is)
    (case pvk2 => k_is)
    (case pva3 => k_is)
    (case pvl3 => k_is)
    (case pvc3 => k_is)
    (case pvk3 => k_is)
    (case pva4 => k_is)
    (case pvl4 => k_is)
    (case pvc4 => k_is)
    (case pvk4 => k_is)
    (case pva5 => k_is)
    (case pvl5 => k_is)
    (case pvc5 => k_is)
    (case pvk5 => k_is)
    (case pva6 => k_is)
    (case pvl6 => k_is)
    (case pvc6 => k_is)
    (case pvk6 => k_is)
    (case pva7 => k_is)
    (case pvl7 => k_is)
    (case pvc7 => k_is)
    (case pvk7 => k_is)
    (case pva8 => k_is)
    (case pvl8 => k_is)
    (case pvc8 => k_is)
    (case pvk8 => k_is)
    (case pva9 => k_is)
    (case pvl9 => k_is)
    (case pvc9 => k_is)
    (case pvk9 => k_is)
    (case pva10 => k_is)
    (case pvl10 => k_is)
    (case pvc10 => k_is)
    (case pvk10 => k_is)
    (case pva11 => k_is)
    (case pvl11 => k_is)
    (case pvc11 => k_is)
    (case pvk11 => k_is)
    (case pva12 => k_is)
    (case pvl12 => k_is)
    (case pvc12 => k_is)
    (case pvk12 => k_is)
    (case pva13 => k_is)
    (case pvl13 => k_is)
    (case pvc13 => k_is)
    (case pvk13 => k_is)
    (case pva14 => k_is)
    (case pvl14 => k_is)
    (case pvc14 => k_is)
    (case pvk14 => k_is)
    (case pva15 => k_is)
    (case pvl15 => k_is)
    (case pvc15 => k_is)
    (case pvk15 => k_is)
    (case pva16 => k_is)
    (case pvl16 => k_is)
    (case pvc16 => k_is)
    (case pvk16 => k_is)
    (case pva17 => k_is)
    (case pvl17 => k_is)
    (case pvc17 => k_is)
    (case pvk17 => k_is)
    (case pvg0 => k_is)
    (case pvg1 => k_is)
    (case pvz0 => k_is)
    (case pvz1 => k_is)
    (case pvz2 => k_is)
    (case pvz3 => k_is)
    (case pvz4 => k_is)
    (case pvz5 => k_is)
    (case pvz6 => k_is)
    (case pvz7 => k_is)
    (case pvz8 => k_is)
    (case pvz9 => k_is)
    (case pvz10 => k_is)
    (case pvz11 => k_is)
    (case pvz12 => k_is)
    (case pvz13 => k_is)
    (case pvz14 => k_is)
    (case pvz15 => k_is)
    (case pvz16 => k_is)
    (case pvz17 => k_is)
    (case pvz18 => k_is)
    (case pvz19 => k_is)
