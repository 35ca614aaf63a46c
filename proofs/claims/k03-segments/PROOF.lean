import PyProof.Rows.All
import Wide.All
import OpenK.AllK
import Wide.FinOn
import HandS.ForMost
import HandS.Base
import HandS.Call
import HandS.List
import HandS.Dict
import HandS.Wide
import KE.DataMinMax
import HandS.Words
import HandS.Exc
import HandS.ExcOwn
import HandS.TryMany
import HandS.Flow
import HandS.TupAny
import HandS.IsInst
import HandS.SortInts
import HandS.More
import HandS.Deep
import PyProof.ReprRoads
import PyProof.P3In
import HandS.RaiseMore
import HandS.Comp
import HandS.DictComp
import HandS.Iter
import HandS.TryOnly
import HandS.Style
import HandS.Zip
import KE.GoesEnum
import KE.GoesZip
import KE.GoesMore
import HandS.Ends
import HandS.EndBits
import PyProof.ReprBulk
import PyProof.P3Eq
import KE.SortData
import PySem.Challenge.RW_oneplainroll_k03_segments_that_meet
set_option Elab.async false
set_option linter.all false
set_option autoImplicit false
set_option maxRecDepth 100000
/-! the small language: data, expressions, statements, and how they run -/
namespace Mi
open PySem

/-- data without a heap -/
inductive D where
  | non
  | bl (b : Bool)
  | int (i : Int)
  | str (s : Str)
  | lst (xs : List D)
  | klst (xs : List D)
  | tup (xs : List D)
  | dct (ks : List L2.Key) (vs : List D)
  | fn (i : Nat)
  | ty (n : String)
  | cls (i : Nat)
  deriving Inhabited

/-- a thing that changes: a list, a dict; gone: no longer looked at -/
inductive Cell where
  | lst (xs : List D)
  | dct (ks : List L2.Key) (vs : List D)
  | gone
abbrev Store := List Cell
/-- what an expression gives: data, a new object that nothing else holds, a cell, an exception that was caught -/
inductive Val where
  | d (x : D)
  | own (c : Cell)
  | ref (l : Nat)
  | err (c : Nat) (a : D)
abbrev Env := List (Option Val)

inductive R (α : Type) where
  | ok (a : α) (S : Store)
  | ex (c : Nat) (a : D) (S : Store)
  | no
def R.bind {α β : Type} : R α → (α → Store → R β) → R β
  | .ok a S, f => f a S
  | .ex c a S, _ => .ex c a S
  | .no, _ => .no
@[simp] theorem R.bind_ok {α β : Type} (a : α) (S : Store) (f : α → Store → R β) : (R.ok a S).bind f = f a S := rfl
@[simp] theorem R.bind_ex {α β : Type} (c : Nat) (a : D) (S : Store) (f : α → Store → R β) : (R.ex c a S : R α).bind f = .ex c a S := rfl
@[simp] theorem R.bind_no {α β : Type} (f : α → Store → R β) : (R.no : R α).bind f = .no := rfl
/-- what a comprehension's block may not let out -/
def R.calm {α : Type} : R α → R α
  | .ok a S => .ok a S
  | _ => .no
@[simp] theorem R.calm_ok {α : Type} (a : α) (S : Store) : (R.ok a S).calm = .ok a S := rfl
def R.of {α : Type} (o : Option α) (S : Store) : R α := match o with
  | some a => .ok a S
  | none => .no
@[simp] theorem R.of_some {α : Type} (a : α) (S : Store) : R.of (some a) S = .ok a S := rfl
@[simp] theorem R.of_none {α : Type} (S : Store) : (R.of none S : R α) = .no := rfl

def Cell.dat : Cell → Option D
  | .lst xs => some (.lst xs)
  | .dct ks vs => some (.dct ks vs)
  | .gone => none
/-- as data that is handed on -/
def Val.dat : Val → Option D
  | .d x => some x
  | .own c => c.dat
  | _ => none
/-- as data that is read at once -/
def Val.peek (S : Store) : Val → Option D
  | .d x => some x
  | .own c => c.dat
  | .ref l => (S[l]?).bind Cell.dat
  | _ => none
/-- as an argument, or in a slot -/
def Val.arg : Val → Option Val
  | .d x => some (.d x)
  | .own c => c.dat.map .d
  | .ref l => some (.ref l)
  | .err c a => some (.err c a)
def peeks (S : Store) : List Val → Option (List D)
  | [] => some []
  | v :: r => (v.peek S).bind fun x => (peeks S r).map (x :: ·)

/-- targets -/
inductive Tg where
  | nm (i : Nat)
  | seq (ts : List Tg)
mutual
def Tg.slots : Tg → List Nat
  | .nm i => [i]
  | .seq ts => slotsL ts
def slotsL : List Tg → List Nat
  | [] => []
  | t :: r => t.slots ++ slotsL r
end
/-- built-in functions and types, called -/
inductive BI where
  | len | abs | isinst | all | any | int | list | tuple | sorted | repr | min | max | sum | bool | str
  deriving DecidableEq
/-- methods -/
inductive MT where
  | append | get2 | count | index | extend | items | values | keys | pop0
  deriving DecidableEq

inductive Ex where
  | kN
  | kB (b : Bool)
  | kI (i : Int)
  | kS (s : Str)
  | var (i : Nat)
  | glb (g : Nat)
  | fnv (f : Nat)
  | typ (n : String)
  | clsv (c : Nat)
  | neg (a : Ex)
  | bin (op : Operator) (a b : Ex)
  | cmp (op : CmpOp) (a b : Ex)
  | chn (o1 o2 : CmpOp) (a b c : Ex)
  | andE (es : List Ex)
  | orE (es : List Ex)
  | notE (a : Ex)
  | ife (t a b : Ex)
  | tup (es : List Ex)
  | lst (es : List Ex)
  | ix (a i : Ex)
  | slc (a : Ex) (lo hi : Option Ex)
  | call (f : Nat) (es : List Ex)
  | bi (b : BI) (es : List Ex)
  | rng (es : List Ex)
  | zip (es : List Ex)
  | enum (es : List Ex)
  | mt (m : MT) (a : Ex) (es : List Ex)
  | lc (e : Ex) (tg : Tg) (it : Ex) (ifs : List Ex) (vs : List Nat)
  | dc (k v : Ex) (tg : Tg) (it : Ex) (ifs : List Ex) (vs : List Nat)

inductive Sx where
  | asg (i : Nat) (e : Ex)
  | asgS (ts : List Tg) (e : Ex)
  | asgN (i : Nat) (e : Ex)
  | setix (o i e : Ex)
  | ex (e : Ex)
  | ret (e : Ex)
  | retN
  | iff (t : Ex) (a b : List Sx)
  | whl (t : Ex) (b : List Sx)
  | for (tg : Tg) (it : Ex) (b : List Sx)
  | brk
  | cont
  | pass
  | raise (c : Nat) (es : List Ex)
  | frz (i : Nat)

/-! ### values -/
mutual
def D.py : D → Option PyData
  | .non => some .none
  | .bl b => some (.bool b)
  | .int i => some (.int i)
  | .str s => some (.str s)
  | .lst xs => (pys xs).map .list
  | .klst _ => none
  | .tup xs => (pys xs).map .tuple
  | .dct _ _ => none
  | .fn _ => none
  | .ty _ => none
  | .cls _ => none
def pys : List D → Option (List PyData)
  | [] => some []
  | x :: r => x.py.bind fun y => (pys r).map (y :: ·)
end
/-- == of two texts -/
def strsD : D → D → Option Bool
  | .str x, .str y => some (decide (x = y))
  | _, _ => none
/-- == of data -/
def eqD (a b : D) : Option Bool := match strsD a b with
  | some k => some k
  | none => a.py.bind fun x => b.py.bind fun y => if SeqAt.shaped x && SeqAt.shaped y then some (PyData.eqv x y) else none
/-- x in xs -/
def inD (x : D) (c : D) : Option Bool := x.py.bind fun p => match c with
  | .lst xs => (pys xs).bind fun ps => if SeqAt.shaped p && SeqAt.shaped (.list ps) then some (ps.any fun z => PyData.eqv z p) else none
  | .tup xs => (pys xs).bind fun ps => if SeqAt.shaped p && SeqAt.shaped (.tuple ps) then some (ps.any fun z => PyData.eqv z p) else none
  | _ => none

def notNoneP : PyData → Bool
  | .none => false
  | _ => true
/-- order of data that are alike -/
def ordD (f : PyData → PyData → Bool) (a b : D) : Option Bool := a.py.bind fun x => b.py.bind fun y => if W.alike x y && notNoneP x && SeqAt.shaped x && SeqAt.shaped y then some (f x y) else none
/-- the first that is ahead of all -/
def bestI (f : PyData → PyData → Bool) (ps : List PyData) : Nat := argBest (fun i j => f (ps.getD i .none) (ps.getD j .none)) (ps.length - 1)
def bestD (f : PyData → PyData → Bool) (xs : List D) : Option Val := (pys xs).bind fun ps =>
  if SeqAt.shaped (.list ps) && (ps.all fun x => ps.all fun y => W.alike x y) && ps.all notNoneP && !ps.isEmpty then (xs[bestI f ps]?).map .d else none

def keyD : L2.Key → D
  | .inl i => .int i
  | .inr s => .str s
def asKey : D → Option L2.Key
  | .int i => some (.inl i)
  | .str s => some (.inr s)
  | _ => none
def lookD (k : L2.Key) : List L2.Key → List D → Option D
  | k' :: ks, v :: vs => if k' = k then some v else lookD k ks vs
  | _, _ => none
def putD (k : L2.Key) (x : D) (ks : List L2.Key) (vs : List D) : List L2.Key × List D :=
  if (ks.any fun q => decide (q = k)) = true then (ks, (ks.zip vs).map fun p => if p.1 = k then x else p.2) else (ks ++ [k], vs ++ [x])

def truD : D → Option Bool
  | .non => some false
  | .bl b => some b
  | .int i => some (i != 0)
  | .str s => if s.length ≤ sizeLine then some (s.length != 0) else none
  | .lst xs => some (!xs.isEmpty)
  | .tup xs => some (!xs.isEmpty)
  | _ => none

def cmulB (i j : Int) : Bool := decide (i.natAbs.log2 + j.natAbs.log2 < 1000000)
def cdivB (j : Int) : Bool := decide (0 < j) && decide (j.natAbs.log2 < 9000)
def cpowB (i j : Int) : Bool := decide (0 ≤ j) && decide (j ≤ 1000000) && decide (i.natAbs < 2 ^ 64)
def binD : Operator → D → D → Option Val
  | .Add, .int i, .int j => some (.d (.int (i + j)))
  | .Add, .str i, .str j => if i.length + j.length ≤ sizeLine then some (.d (.str (i ++ j))) else none
  | .Add, .lst xs, .lst ys => if xs.length + ys.length ≤ sizeLine then some (.own (.lst (xs ++ ys))) else none
  | .Add, .tup xs, .tup ys => if xs.length + ys.length ≤ sizeLine then some (.d (.tup (xs ++ ys))) else none
  | .Sub, .int i, .int j => some (.d (.int (i - j)))
  | .Mult, .int i, .int j => if cmulB i j then some (.d (.int (i * j))) else none
  | .Mult, .lst xs, .int j => if decide (-(2 ^ 63) ≤ j) && decide (j < 2 ^ 63) && decide (xs.length * j.toNat ≤ sizeLine) then some (.own (.lst (List.replicate j.toNat xs).flatten)) else none
  | .FloorDiv, .int i, .int j => if cdivB j then some (.d (.int (i / j))) else none
  | .Mod, .int i, .int j => if 0 < j then some (.d (.int (i % j))) else none
  | .Pow, .int i, .int j => if cpowB i j then some (.d (.int (i ^ j.toNat))) else none
  | _, _, _ => none
def isNon : D → Bool
  | .non => true
  | _ => false
def cmpD : CmpOp → D → D → Option Bool
  | .Eq, a, b => eqD a b
  | .NotEq, a, b => (eqD a b).map (!·)
  | .Lt, .int i, .int j => some (decide (i < j))
  | .LtE, .int i, .int j => some (decide (i ≤ j))
  | .Gt, .int i, .int j => some (decide (j < i))
  | .GtE, .int i, .int j => some (decide (j ≤ i))
  | .Is, a, .non => some (isNon a)
  | .IsNot, a, .non => some (!isNon a)
  | .Lt, a, b => ordD W.dataLt a b
  | .LtE, a, b => ordD (fun x y => !W.dataLt y x) a b
  | .Gt, a, b => ordD (fun x y => W.dataLt y x) a b
  | .GtE, a, b => ordD (fun x y => !W.dataLt x y) a b
  | .In, a, .lst xs => inD a (.lst xs)
  | .In, a, .tup xs => inD a (.tup xs)
  | .NotIn, a, .lst xs => (inD a (.lst xs)).map (!·)
  | .NotIn, a, .tup xs => (inD a (.tup xs)).map (!·)
  | _, _, _ => none
def ixD : D → D → Option D
  | .lst xs, .int i => L2.atI xs i
  | .klst xs, .int i => L2.atI xs i
  | .tup xs, .int i => L2.atI xs i
  | .str s, .int i => if s.length ≤ sizeLine then (L2.atI s.cps.toList i).map fun c => .str ⟨#[c]⟩ else none
  | .dct ks vs, k => (asKey k).bind fun q => lookD q ks vs
  | _, _ => none
def cutL {α : Type} (xs : List α) (lo hi : Option Int) : List α := (xs.drop (HT.sIx xs.length 0 lo)).take (HT.sIx xs.length xs.length hi - HT.sIx xs.length 0 lo)
def slcD (a : D) (lo hi : Option Int) : Option Val := match a with
  | .lst xs => some (.own (.lst (cutL xs lo hi)))
  | .tup xs => some (.d (.tup (cutL xs lo hi)))
  | _ => none
/-- the types of a value -/
def tyOf : D → Option String
  | .non => some "NoneType"
  | .bl _ => some "bool"
  | .int _ => some "int"
  | .str _ => some "str"
  | .lst _ => some "list"
  | .tup _ => some "tuple"
  | .dct _ _ => some "dict"
  | _ => none
def asked : List String := ["int", "bool", "str", "tuple", "list", "dict"]
def isiD (x : D) (n : String) : Option Bool := if asked.contains n then (tyOf x).map fun t => t == n || (t == "bool" && n == "int") else none
def boolsOf : List D → Option (List Bool)
  | [] => some []
  | .bl b :: r => (boolsOf r).map (b :: ·)
  | _ :: _ => none
def intsOf : List D → Option (List Int)
  | [] => some []
  | .int b :: r => (intsOf r).map (b :: ·)
  | _ :: _ => none
/-- insertion sort -/
def insI (x : Int) : List Int → List Int
  | [] => [x]
  | y :: r => if x ≤ y then x :: y :: r else y :: insI x r
def sortI : List Int → List Int
  | [] => []
  | x :: r => insI x (sortI r)
def keyInts : List L2.Key → Option (List Int)
  | [] => some []
  | .inl i :: r => (keyInts r).map (i :: ·)
  | _ :: _ => none
def biD : BI → List D → Option Val
  | .len, [.lst xs] => some (.d (.int xs.length))
  | .len, [.klst xs] => some (.d (.int xs.length))
  | .len, [.tup xs] => some (.d (.int xs.length))
  | .len, [.str s] => if s.length ≤ sizeLine then some (.d (.int s.length)) else none
  | .abs, [.int i] => some (.d (.int (if i < 0 then -i else i)))
  | .isinst, [x, .ty n] => (isiD x n).map fun b => .d (.bl b)
  | .all, [.lst xs] => (boolsOf xs).map fun bs => .d (.bl (bs.all id))
  | .any, [.lst xs] => (boolsOf xs).map fun bs => .d (.bl (bs.any id))
  | .sum, [.lst xs] => (intsOf xs).map fun ns => .d (.int ns.sum)
  | .max, [.int i, .int j] => some (.d (.int (if j > i then j else i)))
  | .min, [.int i, .int j] => some (.d (.int (if j < i then j else i)))
  | .max, [.lst xs] => bestD (fun x y => W.dataLt y x) xs
  | .min, [.lst xs] => bestD W.dataLt xs
  | .int, [.int i] => some (.d (.int i))
  | .int, [.bl k] => some (.d (.int (if k then 1 else 0)))
  | .list, [.lst xs] => some (.own (.lst xs))
  | .list, [.klst xs] => some (.own (.lst xs))
  | .list, [.tup xs] => some (.own (.lst xs))
  | .tuple, [.lst xs] => some (.d (.tup xs))
  | .tuple, [.tup xs] => some (.d (.tup xs))
  | .sorted, [.lst xs] => (intsOf xs).map fun ns => .own (.lst ((sortI ns).map .int))
  | .sorted, [.dct ks _] => (keyInts ks).bind fun ns => if ns.length < 64 then some (.own (.lst ((sortI ns).map .int))) else none
  | .repr, [x] => x.py.bind fun p => if p.showable && decide (p.depth ≤ 40) && decide (p.shown.length ≤ sizeLine) then some (.d (.str p.shown)) else none
  | _, _ => none

/-! ### slots -/
def getV (E : Env) (i : Nat) : Option Val := (E[i]?).join
def wipeE (E : Env) : List Nat → Env
  | [] => E
  | v :: vs => (wipeE E vs).set v none
mutual
def asgT : Tg → D → Env → Option Env
  | .nm i, x, E => if i < E.length then some (E.set i (some (.d x))) else none
  | .seq ts, .tup xs, E => asgTs ts xs E
  | .seq ts, .lst xs, E => asgTs ts xs E
  | .seq _, _, _ => none
def asgTs : List Tg → List D → Env → Option Env
  | [], [], E => some E
  | t :: ts, x :: xs, E => (asgT t x E).bind fun E' => asgTs ts xs E'
  | _, _, _ => none
end
/-- what may receive a method -/
def recv : MT → Val → Store → Option Unit
  | .append, .ref l, S => match S[l]? with
    | some (.lst _) => some ()
    | _ => none
  | _, _, _ => none
/-- what a method does -/
def mtV : MT → Val → List D → Store → R Val
  | .append, .ref l, [x], S => match S[l]? with
    | some (.lst xs) => if xs.length < sizeLine then .ok (.d .non) (S.set l (.lst (xs ++ [x]))) else .no
    | _ => .no
  | _, _, _, _ => .no
def itemsOf : D → Option (List D)
  | .lst xs => some xs
  | .klst xs => some xs
  | .tup xs => some xs
  | _ => none
def upTo (lo : Int) : Nat → List D
  | 0 => []
  | n + 1 => .int lo :: upTo (lo + 1) n
def rngD : List D → Option (List D)
  | [.int j] => if decide (-(2 ^ 62) ≤ j) && decide (j < 2 ^ 62) && decide (j ≤ sizeLine) then some (upTo 0 j.toNat) else none
  | [.int i, .int j] => if decide (-(2 ^ 62) ≤ i) && decide (i < 2 ^ 62) && decide (-(2 ^ 62) ≤ j) && decide (j < 2 ^ 62) && decide (j - i ≤ sizeLine) then some (upTo i (j - i).toNat) else none
  | _ => none
def zipD : List D → List D → List D
  | x :: xs, y :: ys => .tup [x, y] :: zipD xs ys
  | _, _ => []
def zipA : List D → Option (List D)
  | [x, y] => (itemsOf x).bind fun xs => (itemsOf y).map fun ys => zipD xs ys
  | _ => none
def enumD (i : Int) : List D → List D
  | [] => []
  | x :: xs => .tup [.int i, x] :: enumD (i + 1) xs
def enumA : List D → Option (List D)
  | [.lst xs] => some (enumD 0 xs)
  | _ => none

/-! ### how it runs -/
abbrev Fns := Nat → List Val → Store → R Val
def strictAll : List Val → Option (List D)
  | [] => some []
  | v :: r => v.dat.bind fun x => (strictAll r).map (x :: ·)
def argsOf : List Val → Option (List Val)
  | [] => some []
  | v :: r => v.arg.bind fun x => (argsOf r).map (x :: ·)

/-- what an expression means: as a value, as a test, as something that is walked -/
structure Sm where
  ev : Env → Store → R Val
  ts : Env → Store → R Bool
  it : Env → Store → R (List D)
def Sm.v (f : Env → Store → R Val) : Sm where
  ev := f
  ts := fun E S => (f E S).bind fun v S1 => R.of ((v.peek S1).bind truD) S1
  it := fun E S => (f E S).bind fun v S1 => R.of (v.dat.bind itemsOf) S1
def Sm.walk (f : Env → Store → R (List D)) : Sm := ⟨fun _ _ => .no, fun _ _ => .no, f⟩
def Sm.k (v : Val) : Sm := .v fun _ S => .ok v S
def evAll : List Sm → Env → Store → R (List Val)
  | [], _, S => .ok [] S
  | m :: r, E, S => (m.ev E S).bind fun v S1 => (evAll r E S1).bind fun vs S2 => .ok (v :: vs) S2
def evAnd : List Sm → Env → Store → R Val
  | [], _, _ => .no
  | [m], E, S => m.ev E S
  | m :: r, E, S => (m.ev E S).bind fun v S1 => match v with
    | .d (.bl true) => evAnd r E S1
    | .d (.bl false) => .ok (.d (.bl false)) S1
    | _ => .no
def evOr : List Sm → Env → Store → R Val
  | [], _, _ => .no
  | [m], E, S => m.ev E S
  | m :: r, E, S => (m.ev E S).bind fun v S1 => match v with
    | .d (.bl false) => evOr r E S1
    | .d (.bl true) => .ok (.d (.bl true)) S1
    | _ => .no
def tsAnd : List Sm → Env → Store → R Bool
  | [], _, _ => .no
  | [m], E, S => m.ts E S
  | m :: r, E, S => (m.ts E S).bind fun c S1 => if c then tsAnd r E S1 else .ok false S1
def tsOr : List Sm → Env → Store → R Bool
  | [], _, _ => .no
  | [m], E, S => m.ts E S
  | m :: r, E, S => (m.ts E S).bind fun c S1 => if c then .ok true S1 else tsOr r E S1
def tsAll : List Sm → Env → Store → R Bool
  | [], _, S => .ok true S
  | [m], E, S => m.ts E S
  | _, _, _ => .no
def un (m : Sm) (f : D → Option Val) : Env → Store → R Val := fun E S =>
  (m.ev E S).bind fun v S1 => R.of ((v.peek S1).bind f) S1
def op2 (a b : Sm) (f : D → D → Option Val) : Env → Store → R Val := fun E S =>
  (a.ev E S).bind fun v S1 => (b.ev E S1).bind fun u S2 => R.of ((v.peek S2).bind fun x => (u.peek S2).bind fun y => f x y) S2
def negD : D → Option Val
  | .int i => some (.d (.int (-i)))
  | _ => none
def notD : D → Option Val
  | .bl b => some (.d (.bl !b))
  | _ => none
def cmpV (op : CmpOp) (x y : D) : Option Val := (cmpD op x y).map fun b => .d (.bl b)
def chain (o1 o2 : CmpOp) (a b c : Sm) : Env → Store → R Val := fun E S =>
  (a.ev E S).bind fun v S1 => (b.ev E S1).bind fun u S2 => (R.of ((v.peek S2).bind fun x => (u.peek S2).bind fun y => cmpD o1 x y) S2).bind fun k S2 =>
    if k then (c.ev E S2).bind fun w S3 => R.of ((u.peek S3).bind fun y => (w.peek S3).bind fun z => cmpV o2 y z) S3 else .ok (.d (.bl false)) S2
def evPart : Option Sm → Env → Store → R (Option Int)
  | none, _, S => .ok none S
  | some m, E, S => (m.ev E S).bind fun v S1 => match v with
    | .d (.int i) => .ok (some i) S1
    | _ => .no
/-- the turns of a comprehension -/
def turns (tg : Tg) (vs : List Nat) (test : Env → Store → R Bool) (go : Env → Store → R D) (E : Env) : List D → List D → Store → R (List D)
  | [], acc, S => .ok acc S
  | x :: r, acc, S => match asgT tg x (wipeE E vs) with
    | none => .no
    | some E' => (test E' S).bind fun b S1 =>
      if b then (go E' S1).bind fun y S2 => turns tg vs test go E r (acc ++ [y]) S2 else turns tg vs test go E r acc S1
def turnsD (tg : Tg) (vs : List Nat) (test : Env → Store → R Bool) (go : Env → Store → R (L2.Key × D)) (E : Env) : List D → (List L2.Key × List D) → Store → R (List L2.Key × List D)
  | [], acc, S => .ok acc S
  | x :: r, acc, S => match asgT tg x (wipeE E vs) with
    | none => .no
    | some E' => (test E' S).bind fun b S1 =>
      if b then (go E' S1).bind fun y S2 => turnsD tg vs test go E r (putD y.1 y.2 acc.1 acc.2) S2 else turnsD tg vs test go E r acc S1
def strict (m : Sm) : Env → Store → R D := fun E S => (m.ev E S).bind fun v S1 => R.of v.dat S1
def strict2 (k v : Sm) : Env → Store → R (L2.Key × D) := fun E S =>
  (k.ev E S).bind fun x S1 => (v.ev E S1).bind fun y S2 => R.of ((x.dat.bind asKey).bind fun q => y.dat.map fun z => (q, z)) S2

def lcM (mi me : Sm) (mfs : List Sm) (tg : Tg) (vs : List Nat) : Env → Store → R Val := fun E S =>
  (mi.it E S).bind fun xs S1 => ((turns tg vs (tsAll mfs) (strict me) E xs [] S1).calm).bind fun ys S2 => .ok (.own (.lst ys)) S2
def dcM (mi mk mv : Sm) (mfs : List Sm) (tg : Tg) (vs : List Nat) : Env → Store → R Val := fun E S =>
  (mi.it E S).bind fun xs S1 => ((turnsD tg vs (tsAll mfs) (strict2 mk mv) E xs ([], []) S1).calm).bind fun ys S2 => .ok (.own (.dct ys.1 ys.2)) S2

mutual
def sem (Fs : Fns) (Gs : List D) : Ex → Sm
  | .kN => .k (.d .non)
  | .kB b => .k (.d (.bl b))
  | .kI i => .k (.d (.int i))
  | .kS s => .k (.d (.str s))
  | .var i => .v fun E S => R.of (getV E i) S
  | .glb g => .v fun _ S => R.of ((Gs[g]?).map .d) S
  | .fnv f => .k (.d (.fn f))
  | .typ n => .k (.d (.ty n))
  | .clsv c => .k (.d (.cls c))
  | .neg a => .v (un (sem Fs Gs a) negD)
  | .bin op a b => .v (op2 (sem Fs Gs a) (sem Fs Gs b) (binD op))
  | .cmp op a b => .v (op2 (sem Fs Gs a) (sem Fs Gs b) (cmpV op))
  | .chn o1 o2 a b c => .v (chain o1 o2 (sem Fs Gs a) (sem Fs Gs b) (sem Fs Gs c))
  | .andE es => ⟨evAnd (sems Fs Gs es), tsAnd (sems Fs Gs es), fun _ _ => .no⟩
  | .orE es => ⟨evOr (sems Fs Gs es), tsOr (sems Fs Gs es), fun _ _ => .no⟩
  | .notE a => ⟨un (sem Fs Gs a) notD, fun E S => ((sem Fs Gs a).ts E S).bind fun b S1 => .ok (!b) S1, fun _ _ => .no⟩
  | .ife t a b => ⟨fun E S => ((sem Fs Gs t).ts E S).bind fun c S1 => if c then (sem Fs Gs a).ev E S1 else (sem Fs Gs b).ev E S1, fun _ _ => .no, fun E S => (((sem Fs Gs t).ts E S).bind fun c S1 => if c then (sem Fs Gs a).ev E S1 else (sem Fs Gs b).ev E S1).bind fun v S1 => R.of (v.dat.bind itemsOf) S1⟩
  | .tup es => .v fun E S => (evAll (sems Fs Gs es) E S).bind fun vs S1 => R.of ((strictAll vs).bind fun xs => if xs.length ≤ sizeLine then some (.d (.tup xs)) else none) S1
  | .lst es => .v fun E S => (evAll (sems Fs Gs es) E S).bind fun vs S1 => R.of ((strictAll vs).bind fun xs => if xs.length ≤ sizeLine then some (.own (.lst xs)) else none) S1
  | .ix a i => .v (op2 (sem Fs Gs a) (sem Fs Gs i) fun x y => (ixD x y).map .d)
  | .slc a lo hi => .v fun E S => ((sem Fs Gs a).ev E S).bind fun v S1 => (evPart (semo Fs Gs lo) E S1).bind fun l S2 => (evPart (semo Fs Gs hi) E S2).bind fun h S3 => R.of ((v.peek S3).bind fun x => slcD x l h) S3
  | .call f es => .v fun E S => (evAll (sems Fs Gs es) E S).bind fun vs S1 => (R.of (argsOf vs) S1).bind fun ws S1 => Fs f ws S1
  | .bi b es => .v fun E S => (evAll (sems Fs Gs es) E S).bind fun vs S1 => R.of ((peeks S1 vs).bind (biD b)) S1
  | .rng es => .walk fun E S => (evAll (sems Fs Gs es) E S).bind fun vs S1 => R.of ((strictAll vs).bind rngD) S1
  | .zip es => .walk fun E S => (evAll (sems Fs Gs es) E S).bind fun vs S1 => R.of ((strictAll vs).bind zipA) S1
  | .enum es => .walk fun E S => (evAll (sems Fs Gs es) E S).bind fun vs S1 => R.of ((strictAll vs).bind enumA) S1
  | .mt m a es => .v fun E S => ((sem Fs Gs a).ev E S).bind fun x S1 => (R.of (recv m x S1) S1).bind fun _ S1 => (evAll (sems Fs Gs es) E S1).bind fun vs S2 => (R.of (strictAll vs) S2).bind fun xs S2 => mtV m x xs S2
  | .lc e tg it ifs vs => .v (lcM (sem Fs Gs it) (sem Fs Gs e) (sems Fs Gs ifs) tg vs)
  | .dc k v tg it ifs vs => .v (dcM (sem Fs Gs it) (sem Fs Gs k) (sem Fs Gs v) (sems Fs Gs ifs) tg vs)
def sems (Fs : Fns) (Gs : List D) : List Ex → List Sm
  | [] => []
  | e :: r => sem Fs Gs e :: sems Fs Gs r
def semo (Fs : Fns) (Gs : List D) : Option Ex → Option Sm
  | none => none
  | some e => some (sem Fs Gs e)
end

/-! ### statements -/
inductive Fl where
  | nx
  | bk
  | ct
  | rt (v : Val)
abbrev SM := Env → Store → R (Fl × Env)
/-- one behind the other -/
def andThen (a b : SM) : SM := fun E S => (a E S).bind fun p S1 => match p.1 with
  | .nx => b p.2 S1
  | f => .ok (f, p.2) S1
def loop (b : D → SM) : List D → SM
  | [], E, S => .ok (.nx, E) S
  | x :: r, E, S => (b x E S).bind fun p S1 => match p.1 with
    | .nx => loop b r p.2 S1
    | .ct => loop b r p.2 S1
    | .bk => .ok (.nx, p.2) S1
    | .rt v => .ok (.rt v, p.2) S1
def whileN (t : Env → Store → R Bool) (b : SM) : Nat → SM
  | 0, _, _ => .no
  | n + 1, E, S => (t E S).bind fun c S1 => if c then (b E S1).bind fun p S2 => match p.1 with
      | .nx => whileN t b n p.2 S2
      | .ct => whileN t b n p.2 S2
      | .bk => .ok (.nx, p.2) S2
      | .rt v => .ok (.rt v, p.2) S2
    else .ok (.nx, E) S1
def lift (o : Option Env) (S : Store) : R (Fl × Env) := (R.of o S).bind fun E S => .ok (.nx, E) S
def setAt : Val → D → D → Store → Option Store
  | .ref l, k, x, S => match S[l]? with
    | some (.lst xs) => (match k with
      | .int i => (L2.ixN xs.length i).map fun j => S.set l (.lst (xs.set j x))
      | _ => none)
    | some (.dct ks vs) => (asKey k).bind fun q => if ks.length < sizeLine then some (S.set l (.dct (putD q x ks vs).1 (putD q x ks vs).2)) else none
    | _ => none
  | _, _, _, _ => none
mutual
def semS (Fs : Fns) (Gs : List D) (W : Nat) : Sx → SM
  | .asg i e => fun E S => ((sem Fs Gs e).ev E S).bind fun v S1 => lift (v.arg.bind fun w => if i < E.length then some (E.set i (some w)) else none) S1
  | .asgS ts e => fun E S => ((sem Fs Gs e).ev E S).bind fun v S1 => lift (v.dat.bind fun x => asgT (.seq ts) x E) S1
  | .asgN i e => fun E S => ((sem Fs Gs e).ev E S).bind fun v S1 => match v with
    | .own c => if i < E.length then .ok (.nx, E.set i (some (.ref S1.length))) (S1 ++ [c]) else .no
    | _ => .no
  | .setix o i e => fun E S => ((sem Fs Gs e).ev E S).bind fun v S1 => ((sem Fs Gs o).ev E S1).bind fun l S2 => ((sem Fs Gs i).ev E S2).bind fun k S3 =>
      (R.of (v.dat.bind fun x => k.dat.bind fun y => setAt l y x S3) S3).bind fun S4 _ => .ok (.nx, E) S4
  | .ex e => fun E S => ((sem Fs Gs e).ev E S).bind fun _ S1 => .ok (.nx, E) S1
  | .ret e => fun E S => ((sem Fs Gs e).ev E S).bind fun v S1 => .ok (.rt v, E) S1
  | .retN => fun E S => .ok (.rt (.d .non), E) S
  | .iff t a b => fun E S => ((sem Fs Gs t).ts E S).bind fun c S1 => if c then semB Fs Gs W a E S1 else semB Fs Gs W b E S1
  | .whl t b => whileN (sem Fs Gs t).ts (semB Fs Gs W b) W
  | .for tg it b => fun E S => ((sem Fs Gs it).it E S).bind fun xs S1 =>
      loop (fun x E S => (R.of (asgT tg x E) S).bind fun E' S => semB Fs Gs W b E' S) xs E S1
  | .brk => fun E S => .ok (.bk, E) S
  | .cont => fun E S => .ok (.ct, E) S
  | .pass => fun E S => .ok (.nx, E) S
  | .raise _ _ => fun _ _ => .no
  | .frz i => fun E S => match getV E i with
    | some (.ref l) => (R.of ((S[l]?).bind Cell.dat) S).bind fun x S => .ok (.nx, E.set i (some (.d x))) (S.set l .gone)
    | _ => .no
def semB (Fs : Fns) (Gs : List D) (W : Nat) : List Sx → SM
  | [] => fun E S => .ok (.nx, E) S
  | s :: r => andThen (semS Fs Gs W s) (semB Fs Gs W r)
end
/-- what a def hands back: its own cells are let go -/
def fin (n : Nat) : R (Fl × Env) → R Val
  | .no => .no
  | .ex c a S => .ex c a (S.take n)
  | .ok (.rt (.ref l), _) S => if l < n then .ok (.ref l) (S.take n) else match S[l]? with
    | some (.lst xs) => .ok (.own (.lst xs)) (S.take n)
    | some (.dct ks vs) => .ok (.own (.dct ks vs)) (S.take n)
    | _ => .no
  | .ok (.rt v, _) S => .ok v (S.take n)
  | .ok (.nx, _) S => .ok (.d .non) (S.take n)
  | .ok _ _ => .no
/-- a def: how many parameters, how many slots, the body -/
structure Fd where
  np : Nat
  ns : Nat
  body : List Sx
def runF (Fs : Fns) (Gs : List D) (W : Nat) (f : Fd) (vs : List Val) (S : Store) : R Val :=
  if vs.length = f.np then fin S.length (semB Fs Gs W f.body (vs.map some ++ List.replicate (f.ns - vs.length) none) S) else .no
def callF (T : List Fd) (Gs : List D) (W : Nat) : Nat → Fns
  | 0, _, _, _ => .no
  | n + 1, f, vs, S => match T[f]? with
    | some fd => runF (callF T Gs W n) Gs W fd vs S
    | none => .no
end Mi

set_option maxHeartbeats 4000000
/-! how data lie in the abstract heap -/
namespace Mi
open PySem PySem.Spec PyProof.Rows L2

/-- where the text's defs and classes stand -/
structure Gb where
  K : PySem.W.Frag
  adr : Nat → Addr
  cad : Nat → Addr

/-- a tuple of the written part -/
def KT (K : PySem.W.Frag) (a : Addr) (xs : List V) : Prop :=
  ∃ (o : Obj) (its : Array Value) (n : Nat), K.lookup a = some o ∧ o.cls = .type "tuple" ∧ o.data = .seq its n ∧ its.size ≤ sizeLine ∧ Vals xs its.toList

/-- a list that is only read: it stands, or it is the written part's -/
def RL (K : PySem.W.Frag) (H : Hp) (N : Addr → Prop) (a : Addr) (xs : List V) : Prop :=
  (Rd H a (.lst xs) ∧ ¬ N a) ∨ ∃ (o : Obj) (its : Array Value) (n : Nat), K.lookup a = some o ∧ o.cls = .type "list" ∧ o.dict = none ∧ o.data = .seq its n ∧ its.size ≤ sizeLine ∧ Vals xs its.toList
theorem RL.sq {K : PySem.W.Frag} {H : Hp} {N : Addr → Prop} {a : Addr} {xs : List V} (h : RL K H N a xs) : SqL K H a xs := h.imp (·.1) id
theorem RL.mono {K : PySem.W.Frag} {H H' : Hp} {N N' : Addr → Prop} {a : Addr} {xs : List V} (h : ∀ a o, H a = some o → ¬ N a → H' a = some o) (n : ∀ a, N' a → N a ∨ H a = none) (r : RL K H N a xs) : RL K H' N' a xs := by
  rcases r with ⟨hd, hn⟩ | r
  · exact .inl ⟨hd.imp (fun e => h _ _ e hn) fun ⟨o, e⟩ => ⟨o, h _ _ e hn⟩, fun z => (n _ z).elim hn fun e => by rcases hd with q | ⟨o, q⟩ <;> rw [e] at q <;> cases q⟩
  · exact .inr r
mutual
/-- a value shows data; what stands at N is left out -/
inductive DR (G : Gb) (H : Hp) (N : Addr → Prop) : V → D → Prop
  | non : DR G H N .non .non
  | bl (b : Bool) : DR G H N (.bl b) (.bl b)
  | int (i : Int) : DR G H N (.int i) (.int i)
  | str (s : Str) : DR G H N (.str s) (.str s)
  | lst {a : Addr} {vs : List V} {xs : List D} (h : Rd H a (.lst vs)) (n : ¬ N a) (r : DRs G H N vs xs) : DR G H N (.ref a) (.lst xs)
  | klst {a : Addr} {vs : List V} {xs : List D} (h : RL G.K H N a vs) (r : DRs G H N vs xs) : DR G H N (.ref a) (.klst xs)
  | tup {a : Addr} {vs : List V} {xs : List D} (h : Rd H a (.tup vs)) (n : ¬ N a) (r : DRs G H N vs xs) : DR G H N (.ref a) (.tup xs)
  | tupK {a : Addr} {vs : List V} {xs : List D} (h : KT G.K a vs) (r : DRs G H N vs xs) : DR G H N (.ref a) (.tup xs)
  | dct {a : Addr} {ks : List Key} {us : List V} {vs : List D} (h : Rd H a (.dK (ks.zip us))) (n : ¬ N a) (e : ks.length = us.length) (r : DRs G H N us vs) : DR G H N (.ref a) (.dct ks vs)
  | fn (i : Nat) : DR G H N (.ref (G.adr i)) (.fn i)
  | ty (n : String) : DR G H N (.ty n) (.ty n)
  | cls (i : Nat) : DR G H N (.ref (G.cad i)) (.cls i)
inductive DRs (G : Gb) (H : Hp) (N : Addr → Prop) : List V → List D → Prop
  | nil : DRs G H N [] []
  | cons {v : V} {x : D} {vs : List V} {xs : List D} (h : DR G H N v x) (r : DRs G H N vs xs) : DRs G H N (v :: vs) (x :: xs)
end

section
variable {G : Gb} {H H' : Hp} {N N' : Addr → Prop}
mutual
theorem DR.mono (h : ∀ a o, H a = some o → ¬ N a → H' a = some o) (n : ∀ a, N' a → N a ∨ H a = none) : ∀ (x : D) {v : V}, DR G H N v x → DR G H' N' v x
  | .non, _, .non => .non
  | .bl _, _, .bl b => .bl b
  | .int _, _, .int i => .int i
  | .str _, _, .str s => .str s
  | .lst xs, _, .lst hd hn r => .lst (hd.imp (fun e => h _ _ e hn) fun ⟨o, e⟩ => ⟨o, h _ _ e hn⟩) (fun z => (n _ z).elim hn fun e => by rcases hd with q | ⟨o, q⟩ <;> rw [e] at q <;> cases q) (DRs.mono h n xs r)
  | .klst xs, _, .klst hd r => .klst (hd.mono h n) (DRs.mono h n xs r)
  | .tup xs, _, .tup hd hn r => .tup (hd.imp (fun e => h _ _ e hn) fun ⟨o, e⟩ => ⟨o, h _ _ e hn⟩) (fun z => (n _ z).elim hn fun e => by rcases hd with q | ⟨o, q⟩ <;> rw [e] at q <;> cases q) (DRs.mono h n xs r)
  | .tup xs, _, .tupK hk r => .tupK hk (DRs.mono h n xs r)
  | .dct ks vs, _, .dct hd hn e r => .dct (hd.imp (fun e => h _ _ e hn) fun ⟨o, e⟩ => ⟨o, h _ _ e hn⟩) (fun z => (n _ z).elim hn fun e => by rcases hd with q | ⟨o, q⟩ <;> rw [e] at q <;> cases q) e (DRs.mono h n vs r)
  | .fn _, _, .fn i => .fn i
  | .ty _, _, .ty n => .ty n
  | .cls _, _, .cls i => .cls i
theorem DRs.mono (h : ∀ a o, H a = some o → ¬ N a → H' a = some o) (n : ∀ a, N' a → N a ∨ H a = none) : ∀ (xs : List D) {vs : List V}, DRs G H N vs xs → DRs G H' N' vs xs
  | [], _, .nil => .nil
  | x :: xs, _, .cons q r => .cons (DR.mono h n x q) (DRs.mono h n xs r)
end
theorem DR.same (h : Same H H') {x : D} {v : V} (r : DR G H N v x) : DR G H' N v x := DR.mono (fun a o e _ => h a o e) (fun _ z => .inl z) x r
theorem DRs.same (h : Same H H') {x : List D} {v : List V} (r : DRs G H N v x) : DRs G H' N v x := DRs.mono (fun a o e _ => h a o e) (fun _ z => .inl z) x r
/-- fewer places are left out -/
theorem DR.less (h : ∀ a, N' a → N a) {x : D} {v : V} (r : DR G H N v x) : DR G H N' v x := DR.mono (fun a o e _ => e) (fun a z => .inl (h a z)) x r
theorem DRs.less (h : ∀ a, N' a → N a) {x : List D} {v : List V} (r : DRs G H N v x) : DRs G H N' v x := DRs.mono (fun a o e _ => e) (fun a z => .inl (h a z)) x r
theorem DRs.len : ∀ {vs : List V} {xs : List D}, DRs G H N vs xs → vs.length = xs.length
  | _, _, .nil => rfl
  | _, _, .cons _ r => congrArg (· + 1) r.len
theorem DRs.get : ∀ {vs : List V} {xs : List D} {i : Nat} {x : D}, DRs G H N vs xs → xs[i]? = some x → ∃ v, vs[i]? = some v ∧ DR G H N v x
  | _, _, _, _, .nil, e => by simp at e
  | _, _, 0, _, .cons h _, e => by simp at e; subst e; exact ⟨_, rfl, h⟩
  | _, _, i + 1, _, .cons _ r, e => by
    obtain ⟨v, h1, h2⟩ := r.get (i := i) (by simpa using e)
    exact ⟨v, by simpa using h1, h2⟩
theorem DRs.append : ∀ {vs us : List V} {xs ys : List D}, DRs G H N vs xs → DRs G H N us ys → DRs G H N (vs ++ us) (xs ++ ys)
  | _, _, _, _, .nil, s => s
  | _, _, _, _, .cons h r, s => .cons h (r.append s)
theorem DRs.take : ∀ {vs : List V} {xs : List D} (n : Nat), DRs G H N vs xs → DRs G H N (vs.take n) (xs.take n)
  | _, _, 0, _ => .nil
  | _, _, _ + 1, .nil => .nil
  | _, _, n + 1, .cons h r => .cons h (r.take n)
theorem DRs.drop : ∀ {vs : List V} {xs : List D} (n : Nat), DRs G H N vs xs → DRs G H N (vs.drop n) (xs.drop n)
  | _, _, 0, r => r
  | _, _, _ + 1, .nil => .nil
  | _, _, n + 1, .cons _ r => r.drop n
theorem DRs.set {v : V} {x : D} (h : DR G H N v x) : ∀ {vs : List V} {xs : List D} (i : Nat), DRs G H N vs xs → DRs G H N (vs.set i v) (xs.set i x)
  | _, _, _, .nil => .nil
  | _, _, 0, .cons _ r => .cons h r
  | _, _, i + 1, .cons q r => .cons q (r.set h i)
theorem DRs.rep : ∀ {vs : List V} {xs : List D} (n : Nat), DRs G H N vs xs → DRs G H N (List.replicate n vs).flatten (List.replicate n xs).flatten
  | _, _, 0, _ => .nil
  | _, _, n + 1, r => by
    rw [List.replicate_succ, List.replicate_succ, List.flatten_cons, List.flatten_cons]
    exact r.append (r.rep n)
end

/-- a cell's content stands at a -/
def CellR (G : Gb) (H : Hp) (N : Addr → Prop) (a : Addr) : Cell → Prop
  | .lst xs => ∃ vs, H a = some (.lst vs) ∧ DRs G H N vs xs
  | .dct ks vs => ∃ us, H a = some (.dK (ks.zip us)) ∧ ks.length = us.length ∧ DRs G H N us vs
  | .gone => True
def Cell.lives : Cell → Prop
  | .gone => False
  | _ => True
/-- the l-th cell lives and stands at a -/
def At (ρ : List Addr) (S : Store) (l : Nat) (a : Addr) : Prop := ρ[l]? = some a ∧ ∃ c, S[l]? = some c ∧ c.lives
def Live (ρ : List Addr) (S : Store) (a : Addr) : Prop := ∃ l, At ρ S l a
/-- what is not to be met within data: the living cells, and what lies apart -/
def Av (M : Addr → Prop) (ρ : List Addr) (S : Store) (a : Addr) : Prop := Live ρ S a ∨ M a
structure Sim (G : Gb) (M : Addr → Prop) (H : Hp) (ρ : List Addr) (S : Store) : Prop where
  len : ρ.length = S.length
  uni : ∀ l l' a, At ρ S l a → At ρ S l' a → l = l'
  cell : ∀ (l : Nat) a c, ρ[l]? = some a → S[l]? = some c → CellR G H (Av M ρ S) a c
  all : ∀ (l : Nat) a, ρ[l]? = some a → H a ≠ none
  apart : ∀ a, M a → H a ≠ none
  ap : ∀ (l : Nat) a, ρ[l]? = some a → ¬ M a
/-- what is apart, and one thing more -/
abbrev And1 (M : Addr → Prop) (D : Addr) : Addr → Prop := fun a => M a ∨ a = D
/-- what stands in a slot -/
inductive VR (G : Gb) (H : Hp) (N : Addr → Prop) (ρ : List Addr) : V → Val → Prop
  | d {v : V} {x : D} (h : DR G H N v x) : VR G H N ρ v (.d x)
  | ref {a : Addr} {l : Nat} (h : ρ[l]? = some a) : VR G H N ρ (.ref a) (.ref l)
structure EnvR (G : Gb) (H : Hp) (N : Addr → Prop) (ρ : List Addr) (σ : L2.St) (E : Env) : Prop where
  len : σ.length = E.length
  val : ∀ (i : Nat) x, E[i]? = some (some x) → ∃ v, σ[i]? = some (some v) ∧ VR G H N ρ v x

/-- from one moment to a later one: what is no cell stays, no cell comes to life -/
structure Step (ρ : List Addr) (S : Store) (H : Hp) (S' : Store) (H' : Hp) : Prop where
  keep : ∀ a o, H a = some o → ¬ Live ρ S a → H' a = some o
  live : ∀ a, Live ρ S' a → Live ρ S a
theorem Step.refl {ρ : List Addr} {S : Store} {H : Hp} : Step ρ S H S H := ⟨fun _ _ e _ => e, fun _ h => h⟩
theorem Step.trans {ρ : List Addr} {S S1 S2 : Store} {H H1 H2 : Hp} (a : Step ρ S H S1 H1) (b : Step ρ S1 H1 S2 H2) : Step ρ S H S2 H2 :=
  ⟨fun c o e n => b.keep c o (a.keep c o e n) fun z => n (a.live c z), fun c z => a.live c (b.live c z)⟩
theorem Step.same {ρ : List Addr} {S : Store} {H H' : Hp} (h : Same H H') : Step ρ S H S H' := ⟨fun a o e _ => h a o e, fun _ h => h⟩

section
variable {G : Gb} {H H' : Hp} {N N' M : Addr → Prop} {ρ : List Addr} {S S' : Store} {σ : L2.St} {E : Env}
theorem CellR.same (h : Same H H') {a : Addr} : ∀ {c : Cell}, CellR G H N a c → CellR G H' N a c
  | .lst _, ⟨vs, e, r⟩ => ⟨vs, h _ _ e, r.same h⟩
  | .dct _ _, ⟨us, e, z, r⟩ => ⟨us, h _ _ e, z, r.same h⟩
  | .gone, _ => trivial
theorem CellR.less (h : ∀ a, N' a → N a) {a : Addr} : ∀ {c : Cell}, CellR G H N a c → CellR G H N' a c
  | .lst _, ⟨vs, e, r⟩ => ⟨vs, e, r.less h⟩
  | .dct _ _, ⟨us, e, z, r⟩ => ⟨us, e, z, r.less h⟩
  | .gone, _ => trivial
theorem same_there (h : Same H H') {a : Addr} (e : H a ≠ none) : H' a ≠ none := fun z => by
  cases q : H a with
  | none => exact e q
  | some o => rw [h a o q] at z; cases z
theorem Sim.same (h : Same H H') (s : Sim G M H ρ S) : Sim G M H' ρ S :=
  ⟨s.len, s.uni, fun l a c e1 e2 => (s.cell l a c e1 e2).same h, fun l a e => same_there h (s.all l a e), fun a e => same_there h (s.apart a e), s.ap⟩
theorem Sim.there (s : Sim G M H ρ S) {a : Addr} (h : Live ρ S a) : H a ≠ none := let ⟨l, e, _⟩ := h; s.all l a e
theorem Sim.fit (s : Sim G M H ρ S) : ∀ a, Av M ρ S a → H a ≠ none := fun a z => z.elim s.there (s.apart a)
theorem av_and {D a : Addr} : Av (And1 M D) ρ S a ↔ (Av M ρ S a ∨ a = D) := by unfold Av; exact or_assoc.symm
theorem Sim.drop {D : Addr} (s : Sim G (And1 M D) H ρ S) : Sim G M H ρ S :=
  ⟨s.len, s.uni, fun l a c e1 e2 => (s.cell l a c e1 e2).less fun a z => av_and.mpr (.inl z), s.all, fun a e => s.apart a (.inl e), fun l a e z => s.ap l a e (.inl z)⟩
theorem Step.av (t : Step ρ S H S' H') : ∀ a, Av M ρ S' a → Av M ρ S a := fun a z => z.imp (t.live a) id
theorem Step.keep' (t : Step ρ S H S' H') : ∀ a o, H a = some o → ¬ Av M ρ S a → H' a = some o := fun a o e n => t.keep a o e fun z => n (.inl z)
theorem VR.mono (h : ∀ a o, H a = some o → ¬ N a → H' a = some o) (n : ∀ a, N' a → N a ∨ H a = none) {v : V} {x : Val} : VR G H N ρ v x → VR G H' N' ρ v x
  | .d r => .d (r.mono h n)
  | .ref e => .ref e
theorem VR.step (t : Step ρ S H S' H') {v : V} {x : Val} (r : VR G H (Av M ρ S) ρ v x) : VR G H' (Av M ρ S') ρ v x := r.mono t.keep' fun a z => .inl (t.av a z)
theorem DR.step (t : Step ρ S H S' H') {v : V} {x : D} (r : DR G H (Av M ρ S) v x) : DR G H' (Av M ρ S') v x := DR.mono t.keep' (fun a z => .inl (t.av a z)) x r
theorem DRs.step (t : Step ρ S H S' H') {v : List V} {x : List D} (r : DRs G H (Av M ρ S) v x) : DRs G H' (Av M ρ S') v x := DRs.mono t.keep' (fun a z => .inl (t.av a z)) x r
theorem EnvR.step (t : Step ρ S H S' H') (r : EnvR G H (Av M ρ S) ρ σ E) : EnvR G H' (Av M ρ S') ρ σ E := ⟨r.len, fun i x e => let ⟨v, h1, h2⟩ := r.val i x e; ⟨v, h1, h2.step t⟩⟩
end

/-- an exception of the text's own -/
def ExR (G : Gb) (H : Hp) (N : Addr → Prop) (cls : Value) (d : Option Addr) (c : Nat) (a : D) : Prop :=
  cls = .ref (G.cad c) ∧ ∃ dx f v, d = some dx ∧ H dx = some (.xd [(f, v)]) ∧ DR G H N v a
/-- what an expression has given -/
def Out (G : Gb) (M : Addr → Prop) (H : Hp) (ρ : List Addr) (S' : Store) (v : V) (H' : Hp) : Val → Prop
  | .own c => ∃ p, v = .ref p ∧ H p = none ∧ ¬ Av M ρ S' p ∧ (∀ l : Nat, ρ[l]? ≠ some p) ∧ c.lives ∧ Sim G (And1 M p) H' ρ S' ∧ CellR G H' (Av (And1 M p) ρ S') p c
  | x => Sim G M H' ρ S' ∧ VR G H' (Av M ρ S') ρ v x
def Got (G : Gb) (W : WX) (M : Addr → Prop) (σ : L2.St) (ρ : List Addr) (S : Store) (H : Hp) {α : Type} (r : R α) (P : α → Store → Prop) : Prop := match r with
  | .ok x S' => P x S'
  | .ex c a S' => ∀ cls d H', Step ρ S H S' H' → Sim G M H' ρ S' → ExR G H' (Av M ρ S') cls d c a → W cls d σ H'
  | .no => False
section
variable {G : Gb} {W : WX} {M : Addr → Prop} {σ : L2.St} {ρ : List Addr} {S S1 S' : Store} {H H1 : Hp} {α β : Type}
theorem Got.imp {r : R α} {P P' : α → Store → Prop} (h : Got G W M σ ρ S H r P) (f : ∀ x S', P x S' → P' x S') : Got G W M σ ρ S H r P' := by
  cases r with
  | ok x S' => exact f x S' h
  | ex c a S' => exact h
  | no => exact h
theorem Got.bind {r : R α} {f : α → Store → R β} {P : β → Store → Prop} (h : Got G W M σ ρ S H (r.bind f) P) : Got G W M σ ρ S H r fun x S' => Got G W M σ ρ S H (f x S') P := by
  cases r with
  | ok x S' => exact h
  | ex c a S' => exact h
  | no => exact h
/-- the same from a later moment -/
theorem Got.later {r : R α} {P : α → Store → Prop} (t : Step ρ S H S1 H1) (h : Got G W M σ ρ S H r P) : Got G W M σ ρ S1 H1 r P := by
  cases r with
  | ok x S' => exact h
  | ex c a S' => exact fun cls d H' t' s e => h cls d H' (t.trans t') s e
  | no => exact h
theorem Out.sim {v : V} {H' : Hp} {x : Val} (h : Out G M H ρ S' v H' x) : Sim G M H' ρ S' := by
  cases x with
  | own c => obtain ⟨p, _, _, _, _, _, s, _⟩ := h; exact s.drop
  | d x => exact h.1
  | ref l => exact h.1
  | err c a => exact h.1
/-- as data, or in a slot -/
theorem Out.arg {v : V} {H' : Hp} {x y : Val} (h : Out G M H ρ S' v H' x) (e : x.arg = some y) : VR G H' (Av M ρ S') ρ v y := by
  cases x with
  | own c =>
    obtain ⟨p, rfl, hp, np, hn, hl, s, hc⟩ := h
    cases c with
    | lst xs =>
      obtain ⟨vs, h1, h2⟩ := hc
      cases e
      exact .d (.lst (.inl h1) np (h2.less fun a z => av_and.mpr (.inl z)))
    | dct ks vs =>
      obtain ⟨us, h1, z, h2⟩ := hc
      cases e
      exact .d (.dct (.inl h1) np z (h2.less fun a z => av_and.mpr (.inl z)))
    | gone => exact hl.elim
  | d x => cases e; exact h.2
  | ref l => cases e; exact h.2
  | err c a => cases e; exact h.2
end
end Mi

set_option maxHeartbeats 4000000
/-! an expression of the text does what the small language says: the forms -/
namespace Mi
open PySem PySem.Spec PyProof.Rows L2

/-- a value of an argument list -/
inductive AR (G : Gb) (H : Hp) (N : Addr → Prop) (ρ : List Addr) : V → Val → Prop
  | d {v : V} {x : D} (h : DR G H N v x) : AR G H N ρ v (.d x)
  | own {v : V} {c : Cell} {x : D} (e : c.dat = some x) (h : DR G H N v x) : AR G H N ρ v (.own c)
  | ref {a : Addr} {l : Nat} (h : ρ[l]? = some a) : AR G H N ρ (.ref a) (.ref l)
abbrev ARs (G : Gb) (H : Hp) (N : Addr → Prop) (ρ : List Addr) : List V → List Val → Prop := Paired (AR G H N ρ)
/-- a value that is read at once -/
inductive TR (G : Gb) (H : Hp) (N : Addr → Prop) : V → D → Prop
  | dr {v : V} {x : D} (h : DR G H N v x) : TR G H N v x
  | lst {a : Addr} {vs : List V} {xs : List D} (h : H a = some (.lst vs)) (r : DRs G H N vs xs) : TR G H N (.ref a) (.lst xs)
  | dct {a : Addr} {ks : List Key} {us : List V} {vs : List D} (h : H a = some (.dK (ks.zip us))) (e : ks.length = us.length) (r : DRs G H N us vs) : TR G H N (.ref a) (.dct ks vs)
abbrev TRs (G : Gb) (H : Hp) (N : Addr → Prop) : List V → List D → Prop := Paired (TR G H N)

section
variable {G : Gb} {W : WX} {M : Addr → Prop} {σ : L2.St} {ρ : List Addr} {S S1 S' : Store} {H H1 H' : Hp} {N : Addr → Prop}
theorem Out.ar {v : V} {x : Val} (h : Out G M H ρ S' v H' x) : AR G H' (Av M ρ S') ρ v x := by
  cases x with
  | own c =>
    obtain ⟨p, rfl, hp, np, hn, hl, s, hc⟩ := h
    cases c with
    | lst xs =>
      obtain ⟨vs, h1, h2⟩ := hc
      exact .own rfl (.lst (.inl h1) np (h2.less fun a z => av_and.mpr (.inl z)))
    | dct ks vs =>
      obtain ⟨us, h1, z, h2⟩ := hc
      exact .own rfl (.dct (.inl h1) np z (h2.less fun a z => av_and.mpr (.inl z)))
    | gone => exact hl.elim
  | d x => obtain ⟨_, r⟩ := h; cases r with | d q => exact .d q
  | ref l => obtain ⟨_, r⟩ := h; cases r with | ref q => exact .ref q
  | err c a => obtain ⟨_, r⟩ := h; cases r
theorem AR.step (t : Step ρ S H S' H') {v : V} {x : Val} (r : AR G H (Av M ρ S) ρ v x) : AR G H' (Av M ρ S') ρ v x := by
  cases r with
  | d h => exact .d (h.step t)
  | own e h => exact .own e (h.step t)
  | ref h => exact .ref h
theorem ARs.step (t : Step ρ S H S' H') : ∀ {vs : List V} {xs : List Val}, ARs G H (Av M ρ S) ρ vs xs → ARs G H' (Av M ρ S') ρ vs xs
  | _, _, .nil => .nil
  | _, _, .cons h r => .cons (h.step t) (ARs.step t r)
theorem AR.dat {v : V} {x : Val} {d : D} (r : AR G H N ρ v x) (e : x.dat = some d) : DR G H N v d := by
  cases r with
  | d h => cases e; exact h
  | own q h => exact Option.some.inj (q.symm.trans e) ▸ h
  | ref h => cases e
theorem AR.arg {v : V} {x y : Val} (r : AR G H N ρ v x) (e : x.arg = some y) : VR G H N ρ v y := by
  cases r with
  | d h => cases e; exact .d h
  | own q h =>
    have e' : (Cell.dat _).map Val.d = some y := e
    rw [q] at e'
    cases e'
    exact .d h
  | ref h => cases e; exact .ref h
theorem AR.peek {v : V} {x : Val} {d : D} (s : Sim G M H ρ S) (r : AR G H (Av M ρ S) ρ v x) (e : x.peek S = some d) : TR G H (Av M ρ S) v d := by
  cases r with
  | d h => cases e; exact .dr h
  | own q h => exact .dr (Option.some.inj (q.symm.trans e) ▸ h)
  | ref h =>
    rename_i a l
    have e' : (S[l]?).bind Cell.dat = some d := e
    cases q : S[l]? with
    | none => rw [q] at e'; cases e'
    | some c =>
      rw [q] at e'
      have k := s.cell l a c h q
      cases c with
      | lst xs => cases e'; obtain ⟨vs, h1, h2⟩ := k; exact .lst h1 h2
      | dct ks vs => cases e'; obtain ⟨us, h1, z, h2⟩ := k; exact .dct h1 z h2
      | gone => cases e'
theorem ARs.peeks (s : Sim G M H ρ S) : ∀ {vs : List V} {xs : List Val} {ds : List D}, ARs G H (Av M ρ S) ρ vs xs → Mi.peeks S xs = some ds → TRs G H (Av M ρ S) vs ds
  | _, _, _, .nil, e => by cases e; exact .nil
  | _, x :: xs, _, .cons h r, e => by
    unfold Mi.peeks at e
    cases q : x.peek S with
    | none => rw [q] at e; cases e
    | some d =>
      rw [q] at e
      cases q2 : Mi.peeks S xs with
      | none => rw [q2] at e; cases e
      | some ds => rw [q2] at e; cases e; exact .cons (h.peek s q) (ARs.peeks s r q2)
theorem ARs.strict : ∀ {vs : List V} {xs : List Val} {ds : List D}, ARs G H N ρ vs xs → strictAll xs = some ds → DRs G H N vs ds
  | _, _, _, .nil, e => by cases e; exact .nil
  | _, x :: xs, _, .cons h r, e => by
    unfold strictAll at e
    cases q : x.dat with
    | none => rw [q] at e; cases e
    | some d =>
      rw [q] at e
      cases q2 : strictAll xs with
      | none => rw [q2] at e; cases e
      | some ds => rw [q2] at e; cases e; exact .cons (h.dat q) (ARs.strict r q2)
theorem ARs.args : ∀ {vs : List V} {xs ys : List Val}, ARs G H N ρ vs xs → argsOf xs = some ys → Paired (VR G H N ρ) vs ys
  | _, _, _, .nil, e => by cases e; exact .nil
  | _, x :: xs, _, .cons h r, e => by
    unfold argsOf at e
    cases q : x.arg with
    | none => rw [q] at e; cases e
    | some d =>
      rw [q] at e
      cases q2 : argsOf xs with
      | none => rw [q2] at e; cases e
      | some ds => rw [q2] at e; cases e; exact .cons (h.arg q) (ARs.args r q2)
theorem Out.later {v : V} {x : Val} (t : Step ρ S H S1 H1) (s : Sim G M H ρ S) (h : Out G M H1 ρ S' v H' x) : Out G M H ρ S' v H' x := by
  cases x with
  | own c =>
    obtain ⟨p, e, hp, np, r⟩ := h
    refine ⟨p, e, ?_, np, r⟩
    cases q : H p with
    | none => rfl
    | some o =>
      by_cases l : Live ρ S p
      · obtain ⟨i, hi, _⟩ := l
        exact absurd hi (r.1 i)
      · rw [t.keep p o q l] at hp; cases hp
  | d x => exact h
  | ref l => exact h
  | err c a => exact h
end

/-! ### readings -/
section
variable (G : Gb) (W : WX)
def tI (m : Env → Store → R Val) : TE := fun σ H Q => ∃ M ρ E S, EnvR G H (Av M ρ S) ρ σ E ∧ Sim G M H ρ S ∧ Got G W M σ ρ S H (m E S) fun x S' => ∀ v H', Step ρ S H S' H' → Out G M H ρ S' v H' x → Q v H'
def tT (m : Env → Store → R Bool) : TT := fun σ H Q => ∃ M ρ E S, EnvR G H (Av M ρ S) ρ σ E ∧ Sim G M H ρ S ∧ Got G W M σ ρ S H (m E S) fun b S' => ∀ H', Step ρ S H S' H' → Sim G M H' ρ S' → Q b H'
def tAs (m : Env → Store → R (List Val)) : TA := fun σ H Q => ∃ M ρ E S, EnvR G H (Av M ρ S) ρ σ E ∧ Sim G M H ρ S ∧ Got G W M σ ρ S H (m E S) fun xs S' => ∀ vs H', Step ρ S H S' H' → Sim G M H' ρ S' → ARs G H' (Av M ρ S') ρ vs xs → Q vs H'
/-- an iterator that gives these -/
def ItOk (M : Addr → Prop) (ρ : List Addr) (S : Store) (H : Hp) (J : It) (xs : List D) : Prop := xs.length ≤ sizeLine ∧ ∀ (i : Nat) (H2 : Hp) (N : Addr → Prop), (∀ a o, H a = some o → ¬ Av M ρ S a → H2 a = some o) → (∀ a, N a → (Av M ρ S a ∨ H a = none) ∧ H2 a ≠ none) →
  (xs.length = i → J.stop i H2) ∧ ∀ x, xs[i]? = some x → J.go i H2 ∧ ∀ v H3, J.yld i H2 v H3 → Same H2 H3 ∧ DR G H3 N v x
def tIt (m : Env → Store → R (List D)) : TI := fun σ H Q => ∃ M ρ E S, EnvR G H (Av M ρ S) ρ σ E ∧ Sim G M H ρ S ∧ Got G W M σ ρ S H (m E S) fun xs S' => ∀ J H', Step ρ S H S' H' → Sim G M H' ρ S' → ItOk G M ρ S' H' J xs → Q J H'
end

/-! ### judgements may be weakened, chosen by what holds -/
section
variable {X : Cx} {e : Expr} {es : List Expr}
theorem PE_imp {t t' : TE} (h : PE X e t) (f : ∀ σ H Q, t' σ H Q → t σ H Q) : PE X e t' := ⟨fun p s σ H Q I q => h.run p s σ H Q I (f σ H Q q)⟩
theorem PT_imp {t t' : TT} (h : PT X e t) (f : ∀ σ H Q, t' σ H Q → t σ H Q) : PT X e t' := ⟨fun p s σ H Q I q => h.run p s σ H Q I (f σ H Q q)⟩
theorem PW_imp {t t' : TT} (h : PW X e t) (f : ∀ σ H Q, t' σ H Q → t σ H Q) : PW X e t' := ⟨fun w p s σ H Q I q => h.run w p s σ H Q I (f σ H Q q)⟩
theorem PA_imp {t t' : TA} (h : PA X es t) (f : ∀ σ H Q, t' σ H Q → t σ H Q) : PA X es t' := ⟨fun pos p s σ H Q I q => h.run pos p s σ H Q I (f σ H Q q)⟩
theorem PI_imp {tg : Expr} {t t' : TI} (h : PI X tg e t) (f : ∀ σ H Q, t' σ H Q → t σ H Q) : PI X tg e t' := ⟨fun p s σ H Q I q => h.run p s σ H Q I (f σ H Q q)⟩
theorem PI_or {tg : Expr} {t t' : TI} (h : PI X tg e t) (h' : PI X tg e t') : PI X tg e (fun σ H Q => t σ H Q ∨ t' σ H Q) := ⟨fun p s σ H Q I q => q.elim (h.run p s σ H Q I) (h'.run p s σ H Q I)⟩
theorem PE_no : PE X e (fun _ _ _ => False) := ⟨fun _ _ _ _ _ _ q => q.elim⟩
theorem PT_no : PT X e (fun _ _ _ => False) := ⟨fun _ _ _ _ _ _ q => q.elim⟩
theorem PI_no {tg : Expr} : PI X tg e (fun _ _ _ => False) := ⟨fun _ _ _ _ _ _ q => q.elim⟩
end

/-- the three readings of an expression -/
def tupT : Expr → Bool
  | .Tuple _ _ _ => true
  | _ => false
structure Sok (G : Gb) (W : WX) (X : Cx) (e : Expr) (m : Sm) (p : Bool) : Prop where
  ev : PE X e (tI G W m.ev)
  ts : PT X e (tT G W m.ts)
  it : ∀ tg, (p = true → tupT tg = true) → PI X tg e (tIt G W m.it)

section
variable {G : Gb} {W : WX} {X : Cx} {M : Addr → Prop} {σ : L2.St} {ρ : List Addr} {S S1 S' : Store} {H H1 H' : Hp} {N : Addr → Prop}
theorem of_some {α : Type} {o : Option α} {S : Store} {P : α → Store → Prop} (h : Got G W M σ ρ S1 H (R.of o S) P) : ∃ a, o = some a ∧ P a S := by
  cases o with
  | none => exact h.elim
  | some a => exact ⟨a, rfl, h⟩

/-! ### what is walked: a list, a tuple -/
theorem itOk_list {a : Addr} {vs : List V} {xs : List D} (z : vs.length ≤ sizeLine) (h : RL G.K H (Av M ρ S) a vs) (r : DRs G H (Av M ρ S) vs xs) : ItOk G M ρ S H (Itl G.K a) xs := by
  refine ⟨by rw [← r.len]; exact z, fun i H2 N k hN => ?_⟩
  have h2 : SqL G.K H2 a vs := (h.mono k fun b z => (hN b z).1 |>.elim .inl .inr).sq
  refine ⟨fun hi => ⟨vs, h2, by rw [r.len]; exact Nat.le_of_eq hi⟩, fun x e => ?_⟩
  obtain ⟨v, e1, e2⟩ := r.get e
  refine ⟨⟨vs, v, h2, e1⟩, fun u H3 ⟨eH, y⟩ => ?_⟩
  subst eH
  have eu := y vs h2
  rw [e1] at eu
  cases eu
  exact ⟨Same.refl _, DR.mono k (fun b z => (hN b z).1) x e2⟩
theorem itOk_tup {a : Addr} {vs : List V} {xs : List D} (z : vs.length ≤ sizeLine) (h : (Rd H a (.tup vs) ∧ ¬ Av M ρ S a) ∨ KT G.K a vs) (r : DRs G H (Av M ρ S) vs xs) : ItOk G M ρ S H (Itt G.K a) xs := by
  refine ⟨by rw [← r.len]; exact z, fun i H2 N k hN => ?_⟩
  have h2 : SqT G.K H2 a vs := by
    rcases h with ⟨h, n⟩ | h
    · exact .inl (h.imp (fun e => k _ _ e n) fun ⟨o, e⟩ => ⟨o, k _ _ e n⟩)
    · exact .inr h
  refine ⟨fun hi => ⟨vs, h2, by rw [r.len]; exact Nat.le_of_eq hi⟩, fun x e => ?_⟩
  obtain ⟨v, e1, e2⟩ := r.get e
  refine ⟨⟨vs, v, h2, e1⟩, fun u H3 ⟨eH, y⟩ => ?_⟩
  subst eH
  have eu := y vs h2
  rw [e1] at eu
  cases eu
  exact ⟨Same.refl _, DR.mono k (fun b z => (hN b z).1) x e2⟩
theorem of_if {c : Prop} [Decidable c] {α : Type} {a b : α} (h : (if c then some a else none) = some b) : c ∧ a = b := by
  by_cases z : c
  · rw [if_pos z] at h; exact ⟨z, Option.some.inj h⟩
  · rw [if_neg z] at h; cases h
theorem Rd.seq {K : PySem.W.Frag} {a : Addr} {vs : List V} (h : Rd H a (.lst vs)) : SqL K H a vs := .inl h
theorem TR.listR {v : V} {xs : List D} (h : TR G H N v (.lst xs)) : ∃ a vs, v = .ref a ∧ Rd H a (.lst vs) ∧ DRs G H N vs xs := by
  cases h with
  | dr h => cases h with | lst h n r => exact ⟨_, _, rfl, h, r⟩
  | lst h r => exact ⟨_, _, rfl, .inl h, r⟩
theorem DR.tupR {v : V} {xs : List D} (h : DR G H N v (.tup xs)) : ∃ a vs, v = .ref a ∧ SqT G.K H a vs ∧ DRs G H N vs xs ∧ ((Rd H a (.tup vs) ∧ ¬ N a) ∨ KT G.K a vs) := by
  cases h with
  | tup h n r => exact ⟨_, _, rfl, .inl h, r, .inl ⟨h, n⟩⟩
  | tupK h r => exact ⟨_, _, rfl, .inr h, r, .inr h⟩
theorem TR.tupR {v : V} {xs : List D} (h : TR G H N v (.tup xs)) : ∃ a vs, v = .ref a ∧ SqT G.K H a vs ∧ DRs G H N vs xs := by
  cases h with
  | dr h => obtain ⟨a, vs, e, h1, h2, _⟩ := h.tupR; exact ⟨a, vs, e, h1, h2⟩
theorem DR.listR {v : V} {xs : List D} (h : DR G H N v (.lst xs)) : ∃ a vs, v = .ref a ∧ Rd H a (.lst vs) ∧ ¬ N a ∧ DRs G H N vs xs := by
  cases h with
  | lst h n r => exact ⟨_, _, rfl, h, n, r⟩
theorem DR.klstR {v : V} {xs : List D} (h : DR G H N v (.klst xs)) : ∃ a vs, v = .ref a ∧ RL G.K H N a vs ∧ DRs G H N vs xs := by
  cases h with
  | klst h r => exact ⟨_, _, rfl, h, r⟩
theorem TR.klstR {v : V} {xs : List D} (h : TR G H N v (.klst xs)) : ∃ a vs, v = .ref a ∧ RL G.K H N a vs ∧ DRs G H N vs xs := by
  cases h with
  | dr h => exact h.klstR
theorem TR.int {v : V} {i : Int} (h : TR G H N v (.int i)) : v = .int i := by
  cases h with
  | dr h => cases h; rfl
theorem TR.bl {v : V} {i : Bool} (h : TR G H N v (.bl i)) : v = .bl i := by
  cases h with
  | dr h => cases h; rfl
theorem TR.str {v : V} {i : Str} (h : TR G H N v (.str i)) : v = .str i := by
  cases h with
  | dr h => cases h; rfl
theorem isEmpty_len {α β : Type} {xs : List α} {ys : List β} (h : xs.length = ys.length) : xs.isEmpty = ys.isEmpty := by
  cases xs <;> cases ys <;> first | rfl | (exact absurd h (by simp))
theorem TR.tru {v : V} {x : D} {b : Bool} (h : TR G H N v x) (e : truD x = some b) : TruV G.K v H b := by
  cases x with
  | non => cases e; cases h with | dr h => cases h; rfl
  | bl c => cases e; rw [h.bl]; rfl
  | int i => cases e; rw [h.int]; rfl
  | str s =>
    rw [h.str]
    obtain ⟨z, e⟩ := of_if (show (if s.length ≤ sizeLine then some (s.length != 0) else none) = some b from e)
    subst e
    refine ⟨z, ?_⟩
    cases s.length <;> rfl
  | lst xs => cases e; obtain ⟨a, vs, rfl, h1, h2⟩ := h.listR; exact .inl ⟨vs, .inl h1, by rw [isEmpty_len h2.len]⟩
  | tup xs => cases e; obtain ⟨a, vs, rfl, h1, h2⟩ := h.tupR; exact .inr (.inl ⟨vs, h1, by rw [isEmpty_len h2.len]⟩)
  | dct ks vs => cases e
  | klst xs => cases e
  | fn i => cases e
  | ty n => cases e
  | cls i => cases e
/-- sizes of what is tracked -/
def Sz (K : PySem.W.Frag) (H : Hp) : Prop := (∀ a vs, SqL K H a vs → vs.length ≤ sizeLine) ∧ ∀ a vs, SqT K H a vs → vs.length ≤ sizeLine
theorem Inv_sz {pins : List (Addr × Obj)} {s : Shared} (I : Inv X pins σ H s) : Sz X.K H := ⟨fun a vs h => let ⟨_, _, _, z⟩ := I.list h; z, fun a vs h => let ⟨_, _, _, z⟩ := I.tuple h; z⟩
theorem PE_sz {e : Expr} {t : TE} (h : PE X e t) : PE X e (fun σ H Q => t σ H fun v H' => Sz X.K H' → Q v H') :=
  ⟨fun p s σ H Q I q => thn (h.run p s σ H _ I q) fun u s' ⟨v, H', I', r, k⟩ => ⟨v, H', I', r, k (Inv_sz I')⟩⟩
theorem pi_v {e : Expr} {f : Env → Store → R Val} (hG : G.K = X.K) (h : PE X e (tI G W f)) (tg : Expr) : PI X tg e (tIt G W (Sm.v f).it) := by
  refine PI_imp (PI_or (pi_list (PE_sz h)) (pi_tup (PE_sz h))) fun σ H Q ⟨M, ρ, E, S, hE, hS, g⟩ => ?_
  have g1 := Got.bind g
  cases em : f E S with
  | no => rw [em] at g1; exact g1.elim
  | ex c a S' => exact .inl ⟨M, ρ, E, S, hE, hS, by rw [em] at g1 ⊢; exact g1⟩
  | ok v S' =>
    rw [em] at g1
    obtain ⟨xs, ex, q⟩ := of_some (show Got G W M σ ρ S H (R.of (v.dat.bind itemsOf) S') _ from g1)
    cases ed : v.dat with
    | none => rw [ed] at ex; cases ex
    | some d =>
      rw [ed] at ex
      cases d with
      | lst ys =>
        cases ex
        refine .inl ⟨M, ρ, E, S, hE, hS, ?_⟩
        rw [em]
        intro u H' t o z
        obtain ⟨a, vs, rfl, h1, n, h2⟩ := (o.ar.dat ed).listR
        exact ⟨a, rfl, ⟨vs, .inl h1⟩, q _ H' t o.sim (hG ▸ itOk_list (z.1 a vs (.inl h1)) (.inl ⟨h1, n⟩) h2)⟩
      | klst ys =>
        cases ex
        refine .inl ⟨M, ρ, E, S, hE, hS, ?_⟩
        rw [em]
        intro u H' t o z
        obtain ⟨a, vs, rfl, h1, h2⟩ := (o.ar.dat ed).klstR
        exact ⟨a, rfl, ⟨vs, hG ▸ h1.sq⟩, q _ H' t o.sim (hG ▸ itOk_list (z.1 a vs (hG ▸ h1.sq)) h1 h2)⟩
      | tup ys =>
        cases ex
        refine .inr ⟨M, ρ, E, S, hE, hS, ?_⟩
        rw [em]
        intro u H' t o z
        obtain ⟨a, vs, rfl, h1, h2, h3⟩ := (o.ar.dat ed).tupR
        exact ⟨a, rfl, ⟨vs, hG ▸ h1⟩, q _ H' t o.sim (hG ▸ itOk_tup (z.2 a vs (hG ▸ h1)) h3 h2)⟩
      | _ => cases ex
/-- an expression of any kind: as a value it is enough -/
theorem sok_v {e : Expr} {p : Bool} {f : Env → Store → R Val} (hG : G.K = X.K) (h : PE X e (tI G W f)) (he : ∀ whole, isTrue e X.env whole = (do let v ← whole; standAt e.pos; holding [v] (truthy v))) : Sok G W X e (.v f) p := by
  refine ⟨h, ?_, fun tg _ => pi_v hG h tg⟩
  · refine PT_imp (pt_truth h he) fun σ H Q ⟨M, ρ, E, S, hE, hS, g⟩ => ⟨M, ρ, E, S, hE, hS, (Got.bind g).imp fun x S' g v H' t o => ?_⟩
    obtain ⟨b, eb, q⟩ := of_some g
    have hs := o.sim
    cases hp : x.peek S' with
    | none => rw [hp] at eb; cases eb
    | some d =>
      rw [hp] at eb
      have tr := o.ar.peek hs hp
      exact ⟨b, hG ▸ tr.tru eb, q H' t hs⟩
end
end Mi

set_option maxHeartbeats 4000000
/-! operations by values -/
namespace Mi
open PySem PySem.Spec PyProof.Rows L2

/-- what an operation gives -/
def Res (G : Gb) (H : Hp) (N : Addr → Prop) (w : V) (H' : Hp) : Val → Prop
  | .d z => Same H H' ∧ DR G H' N w z
  | .own c => ∃ p, w = .ref p ∧ H p = none ∧ c.lives ∧ Same H H' ∧ CellR G H' (And1 N p) p c
  | _ => False
abbrev Fit (H : Hp) (N : Addr → Prop) : Prop := ∀ a, N a → H a ≠ none
section
variable (G : Gb)
def rD1 (f : D → Option Val) : V → Hp → VK → Prop := fun x H Q => ∃ N d r, Fit H N ∧ TR G H N x d ∧ f d = some r ∧ ∀ w H', Res G H N w H' r → Q w H'
def rD2 (f : D → D → Option Val) : R2 := fun x y H Q => ∃ N d e r, Fit H N ∧ TR G H N x d ∧ TR G H N y e ∧ f d e = some r ∧ ∀ w H', Res G H N w H' r → Q w H'
def rDn (f : List D → Option Val) : List V → Hp → VK → Prop := fun xs H Q => ∃ N ds r, Fit H N ∧ TRs G H N xs ds ∧ f ds = some r ∧ ∀ w H', Res G H N w H' r → Q w H'
end
section
variable {G : Gb} {H H' : Hp} {N N' M : Addr → Prop} {ρ : List Addr} {S : Store}
theorem CellR.mono (h : Same H H') (n : ∀ a, N' a → N a ∨ H a = none) {a : Addr} : ∀ {c : Cell}, CellR G H N a c → CellR G H' N' a c
  | .lst _, ⟨vs, e, r⟩ => ⟨vs, h _ _ e, DRs.mono (fun a o e _ => h a o e) n _ r⟩
  | .dct _ _, ⟨us, e, z, r⟩ => ⟨us, h _ _ e, z, DRs.mono (fun a o e _ => h a o e) n _ r⟩
  | .gone, _ => trivial
theorem Sim.mono {p : Addr} (h : Same H H') (hp : H p = none) (f : H' p ≠ none) (s : Sim G M H ρ S) : Sim G (And1 M p) H' ρ S :=
  ⟨s.len, s.uni, fun l a c e1 e2 => (s.cell l a c e1 e2).mono h fun a z => (av_and.mp z).imp id fun q => by rw [q]; exact hp, (s.same h).all, fun a z => z.elim (fun z => same_there h (s.apart a z)) fun z => by rw [z]; exact f,
    fun l a e z => z.elim (s.ap l a e) fun z => s.all l a e (by rw [z]; exact hp)⟩
theorem Res.out {w : V} {r : Val} (s : Sim G M H ρ S) (h : Res G H (Av M ρ S) w H' r) : Step ρ S H S H' ∧ Out G M H ρ S w H' r := by
  cases r with
  | d z => exact ⟨.same h.1, s.same h.1, .d h.2⟩
  | own c =>
    obtain ⟨p, e, hp, l, sm, r⟩ := h
    have r : CellR G H' (Av (And1 M p) ρ S) p c := r.less fun a z => av_and.mp z
    refine ⟨.same sm, p, e, hp, fun z => s.fit p z hp, fun i hi => s.all i p hi hp, l, s.mono sm hp ?_, r⟩
    cases c with
    | lst xs => obtain ⟨vs, h1, _⟩ := r; rw [h1]; simp
    | dct ks vs => obtain ⟨us, h1, _⟩ := r; rw [h1]; simp
    | gone => exact l.elim
  | ref l => exact h.elim
  | err c a => exact h.elim
/-- a new list, tuple -/
theorem same_upd {p : Addr} {o : HO} (h : H p = none) : Same H (upd H p o) := fun b x e => by rw [upd_ne (ne_of_none e h)]; exact e
theorem Res.lst {p : Addr} {vs : List V} {xs : List D} (h : H p = none) (r : DRs G H N vs xs) : Res G H N (.ref p) (upd H p (.lst vs)) (.own (.lst xs)) :=
  ⟨p, rfl, h, trivial, same_upd h, vs, upd_same, DRs.mono (fun a o e _ => same_upd h a o e) (fun a z => z.imp id fun q => by rw [q]; exact h) _ r⟩
theorem Res.tup {p : Addr} {vs : List V} {xs : List D} (f : Fit H N) (h : H p = none) (r : DRs G H N vs xs) : Res G H N (.ref p) (upd H p (.tup vs)) (.d (.tup xs)) :=
  ⟨same_upd h, .tup (.inl upd_same) (fun z => f p z h) (r.same (same_upd h))⟩
theorem Res.val {w : V} {z : D} (h : DR G H N w z) : Res G H N w H (.d z) := ⟨Same.refl _, h⟩
end

section
variable {G : Gb} {X : Cx}
/-! ### + - * // % ** -/
theorem op_catRd : OpR X (binaryOp .Add) (fun x y H Q => ∃ l b xs zs, x = .ref l ∧ y = .ref b ∧ Rd H l (.lst xs) ∧ Rd H b (.lst zs) ∧ xs.length + zs.length ≤ sizeLine ∧ ∀ p, H p = none → Q (.ref p) (upd H p (.lst (xs ++ zs)))) := by
  intro pins s σ H x y v u Q I rx ry h
  obtain ⟨l, b, xs, zs, rfl, rfl, h1, h2, hz, q⟩ := h
  cases rx
  cases ry
  obtain ⟨z1, is1, n1, r1, e1⟩ := h1.ok I.hok
  obtain ⟨z2, is2, n2, r2, e2⟩ := h2.ok I.hok
  have k1 := r1.length
  have k2 := r2.length
  refine PySem.P.add_list e1 e2 ?_ (by simp only [List.size_toArray]; omega)
  have ea : is1.toArray ++ is2.toArray = (is1 ++ is2).toArray := by simp
  rw [ea]
  exact ⟨.ref _, _, I.lnew (t' := s.toks) (r1.append r2) (by rw [List.length_append]; omega), rfl, q _ I.fresh⟩
theorem none_some {α : Type} {a : α} {P : Prop} (h : none = some a) : P := nomatch h
theorem op_addD (hG : G.K = X.K) : OpR X (binaryOp .Add) (rD2 G (binD .Add)) := by
  intro pins s σ H x y v u Q I rx ry ⟨N, d, e, r, f, tx, ty, er, q⟩
  cases d <;> cases e <;> first | exact none_some er | skip
  · rename_i i j
    cases er
    rw [tx.int] at rx
    rw [ty.int] at ry
    exact op_add pins s σ H _ _ v u Q I rx ry ⟨i, j, rfl, rfl, q _ _ (.val (.int _))⟩
  · rename_i i j
    obtain ⟨z, er⟩ := of_if (show (if i.length + j.length ≤ sizeLine then some (Val.d (.str (i ++ j))) else none) = some r from er)
    subst er
    rw [tx.str] at rx
    rw [ty.str] at ry
    exact op_add_str pins s σ H _ _ v u Q I rx ry ⟨i, j, rfl, rfl, z, q _ _ (.val (.str _))⟩
  · rename_i xs ys
    obtain ⟨z, er⟩ := of_if (show (if xs.length + ys.length ≤ sizeLine then some (Val.own (.lst (xs ++ ys))) else none) = some r from er)
    subst er
    obtain ⟨a, vs, rfl, h1, r1⟩ := tx.listR
    obtain ⟨b, us, rfl, h2, r2⟩ := ty.listR
    refine op_catRd pins s σ H _ _ v u Q I rx ry ⟨a, b, vs, us, rfl, rfl, h1, h2, by rw [r1.len, r2.len]; exact z, fun p hp => q _ _ (.lst hp (r1.append r2))⟩
  · rename_i xs ys
    obtain ⟨z, er⟩ := of_if (show (if xs.length + ys.length ≤ sizeLine then some (Val.d (.tup (xs ++ ys))) else none) = some r from er)
    subst er
    cases tx with
    | dr tx =>
    cases ty with
    | dr ty =>
    obtain ⟨a, vs, rfl, h1, r1, _⟩ := tx.tupR
    obtain ⟨b, us, rfl, h2, r2, _⟩ := ty.tupR
    have l1 := r1.len
    have l2 := r2.len
    refine op_catA pins s σ H _ _ v u Q I rx ry ⟨a, b, vs, us, rfl, rfl, hG ▸ h1, hG ▸ h2, by rw [l1, l2]; exact z, fun e => ?_, fun _ e => ?_, fun _ _ p hp => q _ _ (.tup f hp (r1.append r2))⟩
    · rw [e] at l1
      have e2 : xs = [] := List.length_eq_zero_iff.mp l1.symm
      subst e2
      exact q _ _ (.val ty)
    · rw [e] at l2
      have e2 : ys = [] := List.length_eq_zero_iff.mp l2.symm
      subst e2
      rw [List.append_nil] at q
      exact q _ _ (.val tx)
theorem op_subD : OpR X (binaryOp .Sub) (rD2 G (binD .Sub)) := by
  intro pins s σ H x y v u Q I rx ry ⟨N, d, e, r, f, tx, ty, er, q⟩
  cases d <;> cases e <;> first | exact none_some er | skip
  cases er
  rw [tx.int] at rx
  rw [ty.int] at ry
  exact op_sub pins s σ H _ _ v u Q I rx ry ⟨_, _, rfl, rfl, q _ _ (.val (.int _))⟩
theorem op_repRd : OpR X (binaryOp .Mult) (fun x y H Q => ∃ l k xs, x = .ref l ∧ y = .int k ∧ Rd H l (.lst xs) ∧ -(2 ^ 63) ≤ k ∧ k < 2 ^ 63 ∧ xs.length * k.toNat ≤ sizeLine ∧
    ∀ p, H p = none → Q (.ref p) (upd H p (.lst (List.replicate k.toNat xs).flatten))) := by
  intro pins s σ H x y v u Q I rx ry h
  obtain ⟨l, k, xs, rfl, rfl, hH, h1, h2, hz, q⟩ := h
  cases rx
  obtain ⟨tk, rfl⟩ := ry
  obtain ⟨zl, is1, m, r1, eo⟩ := hH.ok I.hok
  have kl := r1.length
  have len1 : is1.toArray.size * k.toNat ≤ sizeLine := by simp only [List.size_toArray]; rw [← kl]; exact hz
  have cap1 : ¬ is1.toArray.size * k.toNat > (2 ^ 63 - 1) / 8 := by
    have line : (sizeLine : Nat) ≤ (2 ^ 63 - 1) / 8 := by decide
    omega
  have fit1 : ¬ (!Builtin.List.listFitsIndex k) = true := by rw [fitsIndex_both h1 h2]; decide
  have long1 : ¬ Builtin.List.listTooLong (is1.toArray.size * k.toNat) = true := by rw [notLongL len1]; decide
  have new1 : List.foldl (fun a b => a ++ b) #[] (List.replicate (if is1.toArray.isEmpty = true then 0 else k.toNat) is1.toArray) = (List.replicate k.toNat is1).flatten.toArray := by
    have flat : ∀ c : Nat, List.foldl (fun a b => a ++ b) #[] (List.replicate c is1.toArray) = (List.replicate c is1).flatten.toArray := fun c => by
      have z := foldl_rep is1 c []
      rw [List.nil_append] at z
      exact z
    rw [flat]
    cases is1 with
    | nil => simp
    | cons a r' => rw [if_neg (by simp)]
  have here : s.TypeIs (.ref l) "list" := ⟨_, eo, rfl⟩
  refine wpAny_binaryOp_repeat_ref (T := "list") (U := "int") (by decide) here (fun s' => typeIs_int s' k tk) noFill_list_mul
    F.fills_int_mul F.slot_int_rmul repeat_list F.slot_int_index.lookup (call_meets F.slot_int_rmul (typeIs_int s k tk) F.entry_int_rmul (F.args_int_rmul_2 _ _) (int___rmul___int_list k tk l is1.toArray m) ⟨eo, rfl, here, ?_⟩)
  refine call_meets F.slot_list_mul here F.entry_list_mul (F.args_list_mul_2 _ _) (AutoListH.list___mul___list_int_3 l is1.toArray m k tk fit1 cap1 long1) ⟨eo, ?_⟩
  rw [new1]
  exact ⟨.ref _, _, I.lnew (t' := s.toks) (r1.rep k.toNat) (by rw [PyProof.Rows.lm_len_rep_flat, Nat.mul_comm]; exact hz), rfl, q _ I.fresh⟩
theorem op_mulD : OpR X (binaryOp .Mult) (rD2 G (binD .Mult)) := by
  intro pins s σ H x y v u Q I rx ry ⟨N, d, e, r, f, tx, ty, er, q⟩
  cases d <;> cases e <;> first | exact none_some er | skip
  · rename_i i j
    obtain ⟨z, er⟩ := of_if (show (if cmulB i j = true then some (Val.d (.int (i * j))) else none) = some r from er)
    subst er
    rw [tx.int] at rx
    rw [ty.int] at ry
    exact op_mulW pins s σ H _ _ v u Q I rx ry ⟨i, j, rfl, rfl, (of_decide_eq_true z : i.natAbs.log2 + j.natAbs.log2 < 1000000), q _ _ (.val (.int _))⟩
  · rename_i xs j
    obtain ⟨z, er⟩ := of_if (show (if (decide (-(2 ^ 63) ≤ j) && decide (j < 2 ^ 63) && decide (xs.length * j.toNat ≤ sizeLine)) = true then some (Val.own (.lst (List.replicate j.toNat xs).flatten)) else none) = some r from er)
    subst er
    simp only [Bool.and_eq_true, decide_eq_true_eq] at z
    obtain ⟨a, vs, rfl, h1, r1⟩ := tx.listR
    rw [ty.int] at ry
    exact op_repRd pins s σ H _ _ v u Q I rx ry ⟨a, j, vs, rfl, rfl, h1, z.1.1, z.1.2, by rw [r1.len]; exact z.2, fun p hp => q _ _ (.lst hp (r1.rep _))⟩
theorem op_fdivD : OpR X (binaryOp .FloorDiv) (rD2 G (binD .FloorDiv)) := by
  intro pins s σ H x y v u Q I rx ry ⟨N, d, e, r, f, tx, ty, er, q⟩
  cases d <;> cases e <;> first | exact none_some er | skip
  rename_i i j
  obtain ⟨z, er⟩ := of_if (show (if cdivB j = true then some (Val.d (.int (i / j))) else none) = some r from er)
  subst er
  simp only [cdivB, Bool.and_eq_true, decide_eq_true_eq] at z
  rw [tx.int] at rx
  rw [ty.int] at ry
  exact op_fdivW pins s σ H _ _ v u Q I rx ry ⟨i, j, rfl, rfl, z, q _ _ (.val (.int _))⟩
theorem op_modD : OpR X (binaryOp .Mod) (rD2 G (binD .Mod)) := by
  intro pins s σ H x y v u Q I rx ry ⟨N, d, e, r, f, tx, ty, er, q⟩
  cases d <;> cases e <;> first | exact none_some er | skip
  rename_i i j
  obtain ⟨z, er⟩ := of_if (show (if 0 < j then some (Val.d (.int (i % j))) else none) = some r from er)
  subst er
  rw [tx.int] at rx
  rw [ty.int] at ry
  exact op_mod pins s σ H _ _ v u Q I rx ry ⟨i, j, rfl, rfl, z, q _ _ (.val (.int _))⟩
theorem op_powD : OpR X (binaryOp .Pow) (rD2 G (binD .Pow)) := by
  intro pins s σ H x y v u Q I rx ry ⟨N, d, e, r, f, tx, ty, er, q⟩
  cases d <;> cases e <;> first | exact none_some er | skip
  rename_i i j
  obtain ⟨z, er⟩ := of_if (show (if cpowB i j = true then some (Val.d (.int (i ^ j.toNat))) else none) = some r from er)
  subst er
  simp only [cpowB, Bool.and_eq_true, decide_eq_true_eq] at z
  rw [tx.int] at rx
  rw [ty.int] at ry
  exact op_pow pins s σ H _ _ v u Q I rx ry ⟨i, j, rfl, rfl, ⟨z.1.1, z.1.2, z.2⟩, q _ _ (.val (.int _))⟩
theorem op_binD (hG : G.K = X.K) : ∀ op, OpR X (binaryOp op) (rD2 G (binD op))
  | .Add => op_addD hG
  | .Sub => op_subD
  | .Mult => op_mulD
  | .FloorDiv => op_fdivD
  | .Mod => op_modD
  | .Pow => op_powD
  | .MatMult | .Div | .LShift | .RShift | .BitOr | .BitXor | .BitAnd => by
    intro pins s σ H x y v u Q I rx ry ⟨N, d, e, r, f, tx, ty, er, q⟩
    cases d <;> cases e <;> exact none_some er
end
end Mi

set_option maxHeartbeats 4000000
/-! comparisons, places, slices by values -/
namespace Mi
open PySem PySem.Spec PyProof.Rows L2
section
variable {G : Gb} {X : Cx} {H : Hp} {N : Addr → Prop}
mutual
theorem DR.dp : ∀ (x : D) {v : V} {p : PyData}, DR G H N v x → x.py = some p → Dp G.K H v p
  | .non, _, _, .non, e => by cases e; exact .non
  | .bl _, _, _, .bl b, e => by cases e; exact .bl b
  | .int _, _, _, .int i, e => by cases e; exact .int i
  | .str _, _, _, .str s, e => by cases e; exact .str s
  | .lst xs, _, _, .lst h _ r, e => by
    obtain ⟨ps, e1, e2⟩ := Option.map_eq_some_iff.mp (show (pys xs).map PyData.list = some _ from e)
    subst e2
    exact .lst (.inl h) (DRs.dp xs r e1)
  | .tup xs, _, _, .tup h _ r, e => by
    obtain ⟨ps, e1, e2⟩ := Option.map_eq_some_iff.mp (show (pys xs).map PyData.tuple = some _ from e)
    subst e2
    exact .tup (.inl h) (DRs.dp xs r e1)
  | .tup xs, _, _, .tupK h r, e => by
    obtain ⟨ps, e1, e2⟩ := Option.map_eq_some_iff.mp (show (pys xs).map PyData.tuple = some _ from e)
    subst e2
    exact .tup (.inr h) (DRs.dp xs r e1)
  | .dct _ _, _, _, _, e => by cases e
  | .klst _, _, _, _, e => by cases e
  | .fn _, _, _, _, e => by cases e
  | .ty _, _, _, _, e => by cases e
  | .cls _, _, _, _, e => by cases e
theorem DRs.dp : ∀ (xs : List D) {vs : List V} {ps : List PyData}, DRs G H N vs xs → pys xs = some ps → DpAll G.K H vs ps
  | [], _, _, .nil, e => by cases e; exact .nil
  | x :: xs, _, _, .cons h r, e => by
    obtain ⟨p, e1, e2⟩ := Option.bind_eq_some_iff.mp (show x.py.bind (fun y => (pys xs).map (y :: ·)) = some _ from e)
    obtain ⟨ps, e3, e4⟩ := Option.map_eq_some_iff.mp e2
    subst e4
    exact .cons (DR.dp x h e1) (DRs.dp xs r e3)
end
theorem TR.dp {x : D} {v : V} {p : PyData} (h : TR G H N v x) (e : x.py = some p) : Dp G.K H v p := by
  cases h with
  | dr h => exact h.dp _ e
  | lst h r =>
    rename_i xs
    obtain ⟨ps, e1, e2⟩ := Option.map_eq_some_iff.mp (show (pys xs).map PyData.list = some _ from e)
    subst e2
    exact .lst (.inl (.inl h)) (DRs.dp xs r e1)
  | dct h z r => cases e
theorem strsD_some {a b : D} {k : Bool} (h : strsD a b = some k) : ∃ x y, a = .str x ∧ b = .str y ∧ k = decide (x = y) := by
  cases a <;> cases b <;> first | (cases h; done) | (cases h; exact ⟨_, _, rfl, rfl, rfl⟩)
theorem eqD_some {a b : D} {k : Bool} (h : eqD a b = some k) : (∃ x y, a = .str x ∧ b = .str y ∧ k = decide (x = y)) ∨ ∃ p q, a.py = some p ∧ b.py = some q ∧ SeqAt.shaped p = true ∧ SeqAt.shaped q = true ∧ k = PyData.eqv p q := by
  unfold eqD at h
  cases z : strsD a b with
  | some k' => rw [z] at h; cases h; exact .inl (strsD_some z)
  | none =>
  rw [z] at h
  right
  have h : (a.py.bind fun x => b.py.bind fun y => if SeqAt.shaped x && SeqAt.shaped y then some (PyData.eqv x y) else none) = some k := h
  obtain ⟨p, e1, h⟩ := Option.bind_eq_some_iff.mp h
  obtain ⟨q, e2, h⟩ := Option.bind_eq_some_iff.mp h
  obtain ⟨z, h⟩ := of_if h
  rw [Bool.and_eq_true] at z
  exact ⟨p, q, e1, e2, z.1, z.2, h.symm⟩
theorem cmpV_some {op : CmpOp} {d e : D} {r : Val} (h : cmpV op d e = some r) : ∃ k, cmpD op d e = some k ∧ r = .d (.bl k) := by
  obtain ⟨k, h1, h2⟩ := Option.map_eq_some_iff.mp h
  exact ⟨k, h1, h2.symm⟩
theorem op_eqDD (hG : G.K = X.K) (hu : X.A.units + 64 < cLine) : OpR X (compareOp .Eq) (rD2 G (cmpV .Eq)) := by
  intro pins s σ H x y v u Q I rx ry ⟨N, d, e, r, f, tx, ty, er, q⟩
  obtain ⟨k, h, rfl⟩ := cmpV_some er
  rcases eqD_some (show eqD d e = some k by cases d <;> exact h) with ⟨x', y', rfl, rfl, rfl⟩ | ⟨p, p2, e1, e2, s1, s2, rfl⟩
  · rw [tx.str] at rx
    rw [ty.str] at ry
    refine op_eq pins s σ H _ _ v u Q I rx ry ⟨rfl, ?_⟩
    have e : decide (V.str x' = V.str y') = decide (x' = y') := by simp
    rw [e]
    exact q _ _ (.val (.bl _))
  exact op_eqD hu pins s σ H x y v u Q I rx ry ⟨p, p2, hG ▸ tx.dp e1, hG ▸ ty.dp e2, s1, s2, q _ _ (.val (.bl _))⟩
theorem op_neDD (hG : G.K = X.K) (hu : X.A.units + 64 < cLine) : OpR X (compareOp .NotEq) (rD2 G (cmpV .NotEq)) := by
  intro pins s σ H x y v u Q I rx ry ⟨N, d, e, r, f, tx, ty, er, q⟩
  obtain ⟨k, h, rfl⟩ := cmpV_some er
  obtain ⟨k', h2, rfl⟩ := Option.map_eq_some_iff.mp (show (eqD d e).map (!·) = some k by cases d <;> exact h)
  rcases eqD_some h2 with ⟨x', y', rfl, rfl, rfl⟩ | ⟨p, p2, e1, e2, s1, s2, rfl⟩
  · rw [tx.str] at rx
    rw [ty.str] at ry
    refine op_ne pins s σ H _ _ v u Q I rx ry ⟨rfl, ?_⟩
    have e : decide (V.str x' = V.str y') = decide (x' = y') := by simp
    rw [e]
    exact q _ _ (.val (.bl _))
  exact op_neD hu pins s σ H x y v u Q I rx ry ⟨p, p2, hG ▸ tx.dp e1, hG ▸ ty.dp e2, s1, s2, q _ _ (.val (.bl _))⟩
theorem ordD_some {f : PyData → PyData → Bool} {d e : D} {k : Bool} (h : ordD f d e = some k) : ∃ p q, d.py = some p ∧ e.py = some q ∧ PySem.W.alike p q = true ∧ p ≠ .none ∧ SeqAt.shaped p = true ∧ k = f p q := by
  obtain ⟨p, e1, h⟩ := Option.bind_eq_some_iff.mp h
  obtain ⟨q, e2, h⟩ := Option.bind_eq_some_iff.mp h
  obtain ⟨z, h⟩ := of_if h
  simp only [Bool.and_eq_true] at z
  exact ⟨p, q, e1, e2, z.1.1.1, fun n => by rw [n] at z; exact absurd z.1.1.2 (by decide), z.1.2, h.symm⟩
theorem lt_two (d e : D) : (∃ i j, d = .int i ∧ e = .int j) ∨ cmpD .Lt d e = ordD PySem.W.dataLt d e := by
  cases d <;> cases e <;> first | exact .inr rfl | exact .inl ⟨_, _, rfl, rfl⟩
theorem op_ltDD (hG : G.K = X.K) (hu : X.A.units + 64 < cLine) : OpR X (compareOp .Lt) (rD2 G (cmpV .Lt)) := by
  intro pins s σ H x y v u Q I rx ry ⟨N, d, e, r, f, tx, ty, er, q⟩
  rcases lt_two d e with ⟨i, j, rfl, rfl⟩ | h
  · cases er
    rw [tx.int] at rx
    rw [ty.int] at ry
    exact op_lt pins s σ H _ _ v u Q I rx ry ⟨_, _, rfl, rfl, q _ _ (.val (.bl _))⟩
  · obtain ⟨k, h2, rfl⟩ := cmpV_some er
    rw [h] at h2
    obtain ⟨p, p2, e1, e2, al, nn, sh, rfl⟩ := ordD_some h2
    obtain ⟨as, r1⟩ := Dp.reads I p x v (hG ▸ tx.dp e1) rx
    obtain ⟨bs, r2⟩ := Dp.reads I p2 y u (hG ▸ ty.dp e2) ry
    exact PySem.W.lt_data r1 r2 al nn (SeqAt.room_of_shaped sh hu) ⟨.bl _, H, I, rfl, q _ _ (.val (.bl _))⟩
theorem le_two (d e : D) : (∃ i j, d = .int i ∧ e = .int j) ∨ cmpD .LtE d e = ordD (fun x y => !PySem.W.dataLt y x) d e := by
  cases d <;> cases e <;> first | exact .inr rfl | exact .inl ⟨_, _, rfl, rfl⟩
theorem op_leDD (hG : G.K = X.K) (hu : X.A.units + 64 < cLine) : OpR X (compareOp .LtE) (rD2 G (cmpV .LtE)) := by
  intro pins s σ H x y v u Q I rx ry ⟨N, d, e, r, f, tx, ty, er, q⟩
  rcases le_two d e with ⟨i, j, rfl, rfl⟩ | h
  · cases er
    rw [tx.int] at rx
    rw [ty.int] at ry
    exact op_le pins s σ H _ _ v u Q I rx ry ⟨_, _, rfl, rfl, q _ _ (.val (.bl _))⟩
  · obtain ⟨k, h2, rfl⟩ := cmpV_some er
    rw [h] at h2
    obtain ⟨p, p2, e1, e2, al, nn, sh, rfl⟩ := ordD_some h2
    obtain ⟨as, r1⟩ := Dp.reads I p x v (hG ▸ tx.dp e1) rx
    obtain ⟨bs, r2⟩ := Dp.reads I p2 y u (hG ▸ ty.dp e2) ry
    exact PySem.W.le_data r1 r2 al nn (SeqAt.room_of_shaped sh hu) ⟨.bl _, H, I, rfl, q _ _ (.val (.bl _))⟩
theorem gt_two (d e : D) : (∃ i j, d = .int i ∧ e = .int j) ∨ cmpD .Gt d e = ordD (fun x y => PySem.W.dataLt y x) d e := by
  cases d <;> cases e <;> first | exact .inr rfl | exact .inl ⟨_, _, rfl, rfl⟩
theorem op_gtDD (hG : G.K = X.K) (hu : X.A.units + 64 < cLine) : OpR X (compareOp .Gt) (rD2 G (cmpV .Gt)) := by
  intro pins s σ H x y v u Q I rx ry ⟨N, d, e, r, f, tx, ty, er, q⟩
  rcases gt_two d e with ⟨i, j, rfl, rfl⟩ | h
  · cases er
    rw [tx.int] at rx
    rw [ty.int] at ry
    exact op_gt pins s σ H _ _ v u Q I rx ry ⟨_, _, rfl, rfl, q _ _ (.val (.bl _))⟩
  · obtain ⟨k, h2, rfl⟩ := cmpV_some er
    rw [h] at h2
    obtain ⟨p, p2, e1, e2, al, nn, sh, rfl⟩ := ordD_some h2
    obtain ⟨as, r1⟩ := Dp.reads I p x v (hG ▸ tx.dp e1) rx
    obtain ⟨bs, r2⟩ := Dp.reads I p2 y u (hG ▸ ty.dp e2) ry
    exact PySem.W.gt_data r1 r2 al nn (SeqAt.room_of_shaped sh hu) ⟨.bl _, H, I, rfl, q _ _ (.val (.bl _))⟩
theorem ge_two (d e : D) : (∃ i j, d = .int i ∧ e = .int j) ∨ cmpD .GtE d e = ordD (fun x y => !PySem.W.dataLt x y) d e := by
  cases d <;> cases e <;> first | exact .inr rfl | exact .inl ⟨_, _, rfl, rfl⟩
theorem op_geDD (hG : G.K = X.K) (hu : X.A.units + 64 < cLine) : OpR X (compareOp .GtE) (rD2 G (cmpV .GtE)) := by
  intro pins s σ H x y v u Q I rx ry ⟨N, d, e, r, f, tx, ty, er, q⟩
  rcases ge_two d e with ⟨i, j, rfl, rfl⟩ | h
  · cases er
    rw [tx.int] at rx
    rw [ty.int] at ry
    exact op_ge pins s σ H _ _ v u Q I rx ry ⟨_, _, rfl, rfl, q _ _ (.val (.bl _))⟩
  · obtain ⟨k, h2, rfl⟩ := cmpV_some er
    rw [h] at h2
    obtain ⟨p, p2, e1, e2, al, nn, sh, rfl⟩ := ordD_some h2
    obtain ⟨as, r1⟩ := Dp.reads I p x v (hG ▸ tx.dp e1) rx
    obtain ⟨bs, r2⟩ := Dp.reads I p2 y u (hG ▸ ty.dp e2) ry
    exact PySem.W.ge_data r1 r2 al nn (SeqAt.room_of_shaped sh hu) ⟨.bl _, H, I, rfl, q _ _ (.val (.bl _))⟩
theorem TR.isNon {v : V} {x : D} (h : TR G H N v x) : isNon x = decide (v = .non) := by
  cases h with
  | dr h => cases h <;> rfl
  | lst h r => rfl
  | dct h z r => rfl
theorem op_isDD : OpR X (compareOp .Is) (rD2 G (cmpV .Is)) := by
  intro pins s σ H x y v u Q I rx ry ⟨N, d, e, r, f, tx, ty, er, q⟩
  cases e with
  | non =>
    have er : some (Val.d (.bl (isNon d))) = some r := by cases d <;> exact er
    cases er
    cases ty with
    | dr ty =>
    cases ty
    exact op_isN pins s σ H _ _ v u Q I rx ry ⟨rfl, by rw [← tx.isNon]; exact q _ _ (.val (.bl _))⟩
  | _ => cases d <;> exact none_some er
theorem op_isNotDD : OpR X (compareOp .IsNot) (rD2 G (cmpV .IsNot)) := by
  intro pins s σ H x y v u Q I rx ry ⟨N, d, e, r, f, tx, ty, er, q⟩
  cases e with
  | non =>
    have er : some (Val.d (.bl (!isNon d))) = some r := by cases d <;> exact er
    cases er
    cases ty with
    | dr ty =>
    cases ty
    exact op_notN pins s σ H _ _ v u Q I rx ry ⟨rfl, by rw [← tx.isNon]; exact q _ _ (.val (.bl _))⟩
  | _ => cases d <;> exact none_some er
theorem depth_in {p : PyData} {ps : List PyData} {u : Nat} (h1 : SeqAt.shaped p = true) (hu : u + 65 < cLine) : u + 1 + min (PyData.depthAll ps) p.depth < cLine := by
  unfold SeqAt.shaped at h1
  rw [Bool.and_eq_true] at h1
  have := of_decide_eq_true h1.2
  omega
theorem inD_some {x c : D} {k : Bool} (h : inD x c = some k) : ∃ p ps, x.py = some p ∧ SeqAt.shaped p = true ∧ PyData.canLayAll0 ps = true ∧ k = (ps.any fun z => PyData.eqv z p) ∧ (c.py = some (.list ps) ∨ c.py = some (.tuple ps)) := by
  unfold inD at h
  obtain ⟨p, e1, h⟩ := Option.bind_eq_some_iff.mp h
  cases c with
  | lst xs =>
    obtain ⟨ps, e2, h⟩ := Option.bind_eq_some_iff.mp h
    obtain ⟨z, h⟩ := of_if h
    rw [Bool.and_eq_true] at z
    have z2 := SeqAt.canLay_of_shaped z.2
    refine ⟨p, ps, e1, z.1, by simpa [PyData.canLay0] using z2, h.symm, .inl ?_⟩
    show (pys xs).map PyData.list = _
    rw [e2]; rfl
  | tup xs =>
    obtain ⟨ps, e2, h⟩ := Option.bind_eq_some_iff.mp h
    obtain ⟨z, h⟩ := of_if h
    rw [Bool.and_eq_true] at z
    have z2 := SeqAt.canLay_of_shaped z.2
    refine ⟨p, ps, e1, z.1, by simpa [PyData.canLay0] using z2, h.symm, .inr ?_⟩
    show (pys xs).map PyData.tuple = _
    rw [e2]; rfl
  | _ => cases h
theorem op_inDD (hG : G.K = X.K) (hu : X.A.units + 65 < cLine) : OpR X (compareOp .In) (rD2 G (cmpV .In)) := by
  intro pins s σ H x y v u Q I rx ry ⟨N, d, e, r, f, tx, ty, er, q⟩
  obtain ⟨k, h, rfl⟩ := cmpV_some er
  obtain ⟨p, ps, e1, s1, s2, rfl, e2⟩ := inD_some (show inD d e = some k by cases e <;> cases d <;> first | exact h | cases h)
  obtain ⟨as, r1⟩ := Dp.reads I p x v (hG ▸ tx.dp e1) rx
  rcases e2 with e2 | e2
  · obtain ⟨bs, r2⟩ := Dp.reads I _ y u (hG ▸ ty.dp e2) ry
    exact SeqAt.in_list_reads r2 r1 s2 (SeqAt.canLay_of_shaped s1) (depth_in s1 hu) ⟨.bl _, H, I, rfl, q _ _ (.val (.bl _))⟩
  · obtain ⟨bs, r2⟩ := Dp.reads I _ y u (hG ▸ ty.dp e2) ry
    exact SeqAt.in_tuple_reads r2 r1 s2 (SeqAt.canLay_of_shaped s1) (depth_in s1 hu) ⟨.bl _, H, I, rfl, q _ _ (.val (.bl _))⟩
theorem op_notInDD (hG : G.K = X.K) (hu : X.A.units + 65 < cLine) : OpR X (compareOp .NotIn) (rD2 G (cmpV .NotIn)) := by
  intro pins s σ H x y v u Q I rx ry ⟨N, d, e, r, f, tx, ty, er, q⟩
  obtain ⟨k, h, rfl⟩ := cmpV_some er
  obtain ⟨k', h2, rfl⟩ := Option.map_eq_some_iff.mp (show (inD d e).map (!·) = some k by cases e <;> cases d <;> first | exact h | cases h)
  obtain ⟨p, ps, e1, s1, s2, rfl, e2⟩ := inD_some h2
  obtain ⟨as, r1⟩ := Dp.reads I p x v (hG ▸ tx.dp e1) rx
  rcases e2 with e2 | e2
  · obtain ⟨bs, r2⟩ := Dp.reads I _ y u (hG ▸ ty.dp e2) ry
    exact SeqAt.notIn_list_reads r2 r1 s2 (SeqAt.canLay_of_shaped s1) (depth_in s1 hu) ⟨.bl _, H, I, rfl, q _ _ (.val (.bl _))⟩
  · obtain ⟨bs, r2⟩ := Dp.reads I _ y u (hG ▸ ty.dp e2) ry
    exact SeqAt.notIn_tuple_reads r2 r1 s2 (SeqAt.canLay_of_shaped s1) (depth_in s1 hu) ⟨.bl _, H, I, rfl, q _ _ (.val (.bl _))⟩
theorem op_cmpD (hG : G.K = X.K) (hu : X.A.units + 65 < cLine) : ∀ op, OpR X (compareOp op) (rD2 G (cmpV op))
  | .Eq => op_eqDD hG (by omega)
  | .NotEq => op_neDD hG (by omega)
  | .Lt => op_ltDD hG (by omega)
  | .LtE => op_leDD hG (by omega)
  | .Gt => op_gtDD hG (by omega)
  | .GtE => op_geDD hG (by omega)
  | .Is => op_isDD
  | .IsNot => op_isNotDD
  | .In => op_inDD hG hu
  | .NotIn => op_notInDD hG hu

/-! ### places, slices -/
theorem atI_rel {vs : List V} {xs : List D} {i : Int} {x : D} (r : DRs G H N vs xs) (e : atI xs i = some x) : ∃ v, atI vs i = some v ∧ DR G H N v x := by
  unfold atI at e ⊢
  rw [r.len]
  obtain ⟨j, e1, e2⟩ := Option.bind_eq_some_iff.mp e
  obtain ⟨v, h1, h2⟩ := r.get e2
  exact ⟨v, by rw [e1]; exact h1, h2⟩
theorem look_rel {k : Key} : ∀ {ks : List Key} {us : List V} {vs : List D} {x : D}, ks.length = us.length → DRs G H N us vs → lookD k ks vs = some x → ∃ v, valV (ks.zip us) k = some v ∧ DR G H N v x
  | [], _, _, _, _, _, e => by unfold lookD at e; cases e
  | k' :: ks, _, _, _, _, .nil, e => by unfold lookD at e; cases e
  | k' :: ks, u :: us, v :: vs, x, l, .cons h r, e => by
    unfold lookD at e
    rw [List.zip_cons_cons]
    by_cases z : k' = k
    · rw [if_pos z] at e
      cases e
      exact ⟨u, valV_pos (p := (k', u)) z, h⟩
    · rw [if_neg z] at e
      rw [valV_neg (p := (k', u)) z]
      exact look_rel (ks := ks) (us := us) (vs := vs) (by simpa using l) r e
theorem asKey_some {y : D} {k : Key} {v : V} (h : TR G H N v y) (e : asKey y = some k) : v = kV k := by
  cases y with
  | int i => cases e; rw [h.int]; rfl
  | str i => cases e; rw [h.str]; rfl
  | _ => cases e
theorem ix_D (hG : G.K = X.K) (hu : X.A.units + 1 < cLine) : IxR X (rD2 G fun x y => (ixD x y).map .d) := by
  intro value slice pins s σ H x y v u Q I rx ry ⟨N, d, e, r, f, tx, ty, e0, q⟩ hs
  obtain ⟨z, er, rfl⟩ := Option.map_eq_some_iff.mp e0
  have fin : ∀ {w : V}, DR G H N w z → Q w H := fun h => q _ _ (.val h)
  cases d with
  | lst xs =>
    cases e with
    | int i =>
      obtain ⟨a, vs, rfl, h1, r1⟩ := tx.listR
      obtain ⟨w, e1, e2⟩ := atI_rel r1 (show atI xs i = some z from er)
      exact ix_list value slice pins s σ H _ _ v u Q I rx ry ⟨a, vs, i, w, rfl, ty.int, .inl h1, e1, fin e2⟩ hs
    | _ => cases er
  | klst xs =>
    cases e with
    | int i =>
      obtain ⟨a, vs, rfl, h1, r1⟩ := tx.klstR
      obtain ⟨w, e1, e2⟩ := atI_rel r1 (show atI xs i = some z from er)
      exact ix_list value slice pins s σ H _ _ v u Q I rx ry ⟨a, vs, i, w, rfl, ty.int, hG ▸ h1.sq, e1, fin e2⟩ hs
    | _ => cases er
  | tup xs =>
    cases e with
    | int i =>
      obtain ⟨a, vs, rfl, h1, r1⟩ := tx.tupR
      obtain ⟨w, e1, e2⟩ := atI_rel r1 (show atI xs i = some z from er)
      exact ix_tup value slice pins s σ H _ _ v u Q I rx ry ⟨a, vs, i, w, rfl, ty.int, hG ▸ h1, e1, fin e2⟩ hs
    | _ => cases er
  | str t =>
    cases e with
    | int i =>
      by_cases l : t.length ≤ sizeLine
      · have er : (if t.length ≤ sizeLine then (atI t.cps.toList i).map fun c => D.str ⟨#[c]⟩ else none) = some z := er
        rw [if_pos l] at er
        obtain ⟨c, e1, e2⟩ := Option.map_eq_some_iff.mp er
        subst e2
        exact ix_str value slice pins s σ H _ _ v u Q I rx ry ⟨t, i, c, tx.str, ty.int, l, e1, fin (.str _)⟩ hs
      · have er : (if t.length ≤ sizeLine then (atI t.cps.toList i).map fun c => D.str ⟨#[c]⟩ else none) = some z := er
        rw [if_neg l] at er
        cases er
    | _ => cases er
  | dct ks vs =>
    obtain ⟨k, e1, e2⟩ := Option.bind_eq_some_iff.mp (show (asKey e).bind (fun q => lookD q ks vs) = some z by cases e <;> exact er)
    have go : ∀ {a : Addr} {us : List V}, Rd H a (.dK (ks.zip us)) → ks.length = us.length → DRs G H N us vs → x = .ref a → wpAny (model X.prog X.w) X.A (subscriptTail value slice v u) (EP X pins σ Q) X.xe s := fun {a us} h l r1 ex => by
      subst ex
      obtain ⟨w, h1, h2⟩ := look_rel (ks := ks) (us := us) l r1 e2
      have g : DGet H a (kV k) (some w) := .inl ⟨_, k, h, rfl, h1.symm⟩
      rw [asKey_some ty e1] at ry
      cases rx
      exact tail_any (dict_typeIs I g) PySem.F.slot_dict_getitem.lookup (d_getItem hu I g ry fun w' s' I' rw' => ⟨w, H, I', rw', fin h2⟩) hs
    cases tx with
    | dr h => cases h with | dct h n l r1 => exact go h l r1 rfl
    | dct h l r1 => exact go (.inl h) l r1 rfl
  | _ => cases er
theorem cut_rel {vs : List V} {xs : List D} (lo hi : Option Int) (r : DRs G H N vs xs) : DRs G H N (cutV vs lo hi) (cutL xs lo hi) := by
  unfold cutV cutL
  rw [r.len]
  exact (r.drop _).take _
def rSlD (G : Gb) : V → Option Int → Option Int → Hp → VK → Prop := fun x lo hi H Q => ∃ N d r, Fit H N ∧ TR G H N x d ∧ slcD d lo hi = some r ∧ ∀ w H', Res G H N w H' r → Q w H'
theorem sl_D (hG : G.K = X.K) : SlR X (rSlD G) := by
  intro pins s σ H x v vl vu lo hi sl Q I rx hs pl pu ⟨N, d, r, f, tx, er, q⟩
  cases d with
  | lst xs =>
    cases er
    obtain ⟨a, vs, rfl, h1, r1⟩ := tx.listR
    exact sl_list pins s σ H _ v vl vu lo hi sl Q I rx hs pl pu ⟨a, vs, rfl, .inl h1, fun p hp => q _ _ (.lst hp (cut_rel lo hi r1))⟩
  | tup xs =>
    cases er
    cases tx with
    | dr tx =>
    obtain ⟨a, vs, rfl, h1, r1, _⟩ := tx.tupR
    refine sl_tupA pins s σ H _ v vl vu lo hi sl Q I rx hs pl pu ⟨a, vs, rfl, hG ▸ h1, fun ⟨e1, e2⟩ => ?_, fun _ p hp => q _ _ (.tup f hp (cut_rel lo hi r1))⟩
    have e3 : cutL xs lo hi = xs := by
      unfold cutL
      rw [← r1.len, e1, e2, List.drop_zero, Nat.sub_zero, r1.len]
      exact List.take_length
    rw [e3] at q
    exact q _ _ (.val tx)
  | _ => cases er
end
end Mi

set_option maxHeartbeats 4000000
/-! built-in functions by values -/
namespace Mi
open PySem PySem.Spec PyProof.Rows L2
def BI.ty : BI → Bool
  | .int | .list | .tuple | .bool | .str => true
  | _ => false
def BI.id : BI → String
  | .len => "len" | .abs => "abs" | .isinst => "isinstance" | .all => "all" | .any => "any" | .int => "int" | .list => "list" | .tuple => "tuple" | .sorted => "sorted"
  | .repr => "repr" | .min => "min" | .max => "max" | .sum => "sum" | .bool => "bool" | .str => "str"
def BI.val (b : BI) : Value := if b.ty then .type b.id else .builtin b.id
theorem BI.boot (b : BI) : bootBuiltins (Str.ofString b.id) = some b.val := by cases b <;> decide +kernel
theorem insI_perm (x : Int) : ∀ l : List Int, (insI x l).Perm (x :: l)
  | [] => .refl _
  | y :: r => by
    unfold insI
    by_cases h : x ≤ y
    · rw [if_pos h]
    · rw [if_neg h]
      exact ((insI_perm x r).cons y).trans (.swap x y r)
theorem insI_rise (x : Int) : ∀ l : List Int, l.Pairwise (· ≤ ·) → (insI x l).Pairwise (· ≤ ·)
  | [], _ => by unfold insI; exact .cons (by simp) .nil
  | y :: r, h => by
    unfold insI
    have h1 := List.pairwise_cons.mp h
    by_cases z : x ≤ y
    · rw [if_pos z]
      refine List.pairwise_cons.mpr ⟨fun a ha => ?_, h⟩
      rcases List.mem_cons.mp ha with e | e
      · rw [e]; exact z
      · exact Int.le_trans z (h1.1 a e)
    · rw [if_neg z]
      refine List.pairwise_cons.mpr ⟨fun a ha => ?_, insI_rise x r h1.2⟩
      rcases List.mem_cons.mp ((insI_perm x r).mem_iff.mp ha) with e | e
      · rw [e]; omega
      · exact h1.1 a e
theorem sortI_perm : ∀ l : List Int, (sortI l).Perm l
  | [] => .refl _
  | x :: r => by unfold sortI; exact (insI_perm x _).trans ((sortI_perm r).cons x)
theorem sortI_rise : ∀ l : List Int, (sortI l).Pairwise (· ≤ ·)
  | [] => .nil
  | x :: r => by unfold sortI; exact insI_rise x _ (sortI_rise r)
theorem sortI_same {a l : List Int} (p : a.Perm l) (h : a.Pairwise (· ≤ ·)) : a = sortI l :=
  (p.trans (sortI_perm l).symm).eq_of_pairwise (fun x y _ _ h1 h2 => Int.le_antisymm h1 h2) h (sortI_rise l)
section
variable {G : Gb} {X : Cx} {H : Hp} {N : Addr → Prop}
theorem DRs.ints : ∀ {vs : List V} {xs : List D} {ns : List Int}, DRs G H N vs xs → intsOf xs = some ns → vs = ns.map V.int
  | _, _, _, .nil, e => by cases e; rfl
  | _, x :: xs, _, .cons h r, e => by
    cases x with
    | int i =>
      obtain ⟨ns, e1, e2⟩ := Option.map_eq_some_iff.mp (show (intsOf xs).map (i :: ·) = some _ from e)
      subst e2
      cases h
      rw [r.ints e1]; rfl
    | _ => cases e
theorem DRs.bools : ∀ {vs : List V} {xs : List D} {ns : List Bool}, DRs G H N vs xs → boolsOf xs = some ns → vs = ns.map V.bl
  | _, _, _, .nil, e => by cases e; rfl
  | _, x :: xs, _, .cons h r, e => by
    cases x with
    | bl i =>
      obtain ⟨ns, e1, e2⟩ := Option.map_eq_some_iff.mp (show (boolsOf xs).map (i :: ·) = some _ from e)
      subst e2
      cases h
      rw [r.bools e1]; rfl
    | _ => cases e
theorem drs_ints : ∀ ns : List Int, DRs G H N (ns.map V.int) (ns.map D.int)
  | [] => .nil
  | n :: ns => .cons (.int n) (drs_ints ns)
theorem keyInts_map : ∀ {ks : List Key} {ns : List Int}, keyInts ks = some ns → ks = ns.map Sum.inl
  | [], _, e => by cases e; rfl
  | .inl i :: ks, _, e => by
    obtain ⟨ns, e1, e2⟩ := Option.map_eq_some_iff.mp (show (keyInts ks).map (i :: ·) = some _ from e)
    subst e2
    rw [keyInts_map e1]; rfl
  | .inr _ :: _, _, e => by cases e
theorem trs1 {vs : List V} {x : D} (h : TRs G H N vs [x]) : ∃ v, vs = [v] ∧ TR G H N v x := by
  cases h with
  | cons a b => cases b; exact ⟨_, rfl, a⟩
theorem trs2 {vs : List V} {x y : D} (h : TRs G H N vs [x, y]) : ∃ v w, vs = [v, w] ∧ TR G H N v x ∧ TR G H N w y := by
  cases h with
  | cons a b =>
    cases b with
    | cons b c => cases c; exact ⟨_, _, rfl, a, b⟩
theorem TR.ty {v : V} {x : D} {t : String} (h : TR G H N v x) (e : tyOf x = some t) : TyX G.K H v (.type t) := by
  cases x with
  | non => cases e; cases h with | dr h => cases h; exact .base .non
  | bl b => cases e; rw [h.bl]; exact .base (.bl b)
  | int b => cases e; rw [h.int]; exact .base (.int b)
  | str b => cases e; rw [h.str]; exact .base (.str b)
  | lst xs =>
    cases e
    obtain ⟨a, vs, rfl, h1 | ⟨o, h1⟩, _⟩ := h.listR
    · exact .base (.lst h1)
    · exact .base (.frz h1)
  | tup xs =>
    cases e
    obtain ⟨a, vs, rfl, (h1 | ⟨o, h1⟩) | ⟨o, its, n, k1, k2, _⟩, _⟩ := h.tupR
    · exact .base (.tup h1)
    · exact .fTuple h1
    · exact .kTuple k1 k2
  | dct ks vs =>
    cases e
    cases h with
    | dr h =>
      cases h with
      | dct h n l r =>
        rcases h with h | ⟨o, h⟩
        · exact .base (.dK h)
        · exact .fDict h
    | dct h l r => exact .base (.dK h)
  | _ => cases e
theorem kit_all : ∀ t ∈ ["NoneType", "bool", "int", "str", "list", "tuple", "dict"], ∀ n ∈ asked, kitB t n = some (t == n || (t == "bool" && n == "int")) := by decide +kernel
theorem tyOf_mem {x : D} {t : String} (e : tyOf x = some t) : t ∈ ["NoneType", "bool", "int", "str", "list", "tuple", "dict"] := by
  cases x <;> first | (cases e; decide) | cases e
mutual
theorem pyData_noDict : ∀ (x : D) {p : PyData}, x.py = some p → p.hasDict = false
  | .non, _, e => by cases e; rfl
  | .bl _, _, e => by cases e; rfl
  | .int _, _, e => by cases e; rfl
  | .str _, _, e => by cases e; rfl
  | .lst xs, _, e => by
    obtain ⟨ps, e1, e2⟩ := Option.map_eq_some_iff.mp (show (pys xs).map PyData.list = some _ from e)
    subst e2
    exact pys_noDict xs e1
  | .tup xs, _, e => by
    obtain ⟨ps, e1, e2⟩ := Option.map_eq_some_iff.mp (show (pys xs).map PyData.tuple = some _ from e)
    subst e2
    exact pys_noDict xs e1
  | .dct _ _, _, e => by cases e
  | .fn _, _, e => by cases e
  | .ty _, _, e => by cases e
  | .cls _, _, e => by cases e
theorem pys_noDict : ∀ (xs : List D) {ps : List PyData}, pys xs = some ps → PyData.hasDictAll ps = false
  | [], _, e => by cases e; rfl
  | x :: xs, _, e => by
    obtain ⟨p, e1, e2⟩ := Option.bind_eq_some_iff.mp (show x.py.bind (fun y => (pys xs).map (y :: ·)) = some _ from e)
    obtain ⟨ps, e3, e4⟩ := Option.map_eq_some_iff.mp e2
    subst e4
    show (p.hasDict || PyData.hasDictAll ps) = false
    rw [pyData_noDict x e1, pys_noDict xs e3]; rfl
end
theorem bestI_lt (f : PyData → PyData → Bool) (ps : List PyData) (h : ps ≠ []) : bestI f ps < ps.length := by
  have le : ∀ (bt : Nat → Nat → Bool) (k : Nat), argBest bt k ≤ k := fun bt k => by
    induction k with
    | zero => exact Nat.le_refl _
    | succ k ih =>
      unfold argBest
      split
      · exact Nat.le_refl _
      · exact Nat.le_succ_of_le ih
  have := le (fun i j => f (ps.getD i .none) (ps.getD j .none)) (ps.length - 1)
  have hl : 0 < ps.length := List.length_pos_iff.mpr h
  unfold bestI
  omega
theorem bestD_some {f : PyData → PyData → Bool} {xs : List D} {r : Val} (h : bestD f xs = some r) : ∃ ps x, pys xs = some ps ∧ SeqAt.shaped (.list ps) = true ∧ PySem.W.AlikeAll ps ∧ ps ≠ [] ∧ xs[bestI f ps]? = some x ∧ r = .d x := by
  obtain ⟨ps, e1, h⟩ := Option.bind_eq_some_iff.mp h
  split at h
  case isFalse => cases h
  case isTrue z =>
  simp only [Bool.and_eq_true, List.all_eq_true, Bool.not_eq_true'] at z
  obtain ⟨x, e2, rfl⟩ := Option.map_eq_some_iff.mp h
  exact ⟨ps, x, e1, z.1.1.1, ⟨z.1.1.2, fun y hy n => by have := z.1.2 y hy; rw [n] at this; exact absurd this (by decide)⟩, fun n => by rw [n] at z; exact absurd z.2 (by decide), e2, rfl⟩
theorem best_max (hG : G.K = X.K) (hc : X.calm = true) (hu : X.A.units + 100 < cLine) {pins : List (Addr × Obj)} {s : Shared} {σ : L2.St} {Q : VK} {u : Value} {a : Addr} {vs : List V} {ys : List D} {ps : List PyData} {x : D} (I : Inv X pins σ H s) (h1 : Rd H a (.lst vs)) (r1 : DRs G H N vs ys) (e1 : pys ys = some ps) (sh : SeqAt.shaped (.list ps) = true) (al : PySem.W.AlikeAll ps) (ne : ps ≠ []) (ex : ys[bestI (fun x y => PySem.W.dataLt y x) ps]? = some x)
    (q : ∀ v, DR G H N v x → Q v H) : wpAny (model X.prog X.w) X.A (call (.builtin "max") [.ref a]) (EP X pins σ Q) X.xe s := by
  obtain ⟨its, rv, hl, _⟩ := I.list (.inl h1)
  obtain ⟨as, hr⟩ := Dp.readsAll I ps vs its (hG ▸ r1.dp _ e1) rv
  obtain ⟨v, ev, dv⟩ := r1.get ex
  obtain ⟨w, ew, rw_⟩ := rv.get ev
  have hn : its.length = ps.length := PySem.SeqAt.ReadsAll.length _ _ _ hr
  have hd := SeqAt.depth_of_shaped sh
  have hr' : ReadsAll s.heap its.toArray.toList ps as := by simpa using hr
  refine PySem.call_max_walkH (PySem.W.iter_listW (A := X.A.in1) (I.ok.hd hc) hl.isList fun s₂ e W st hfp hw hk => ?_)
  refine ⟨_, _, _, _, _, _, _, s.heap, _, rfl, W, st, hfp, by have := List.length_pos_iff.mpr ne; simp; omega, hw, hk, PySem.W.cmpIn_gt (A := X.A.in1) hr' al (by show X.A.units + 1 + PyData.depthAll ps < cLine; have hd : PyData.depthAll ps + 1 ≤ 64 := hd; omega), fun v' s' hP m => ?_⟩
  obtain ⟨h', tk, rfl, hk'⟩ := PySem.W.moved_old e rfl m
  have hP : its.toArray[bestI (fun x y => PySem.W.dataLt y x) ps]? = some v' := by
    unfold bestI
    have e0 : its.toArray.size - 1 = ps.length - 1 := by simp [hn]
    rw [← e0]
    exact hP
  have ew' : its.toArray[bestI (fun x y => PySem.W.dataLt y x) ps]? = some w := by simpa using ew
  rw [hP] at ew'
  cases ew'
  exact ⟨v, H, I.kept hk', rw_, q v dv⟩
theorem best_min (hG : G.K = X.K) (hc : X.calm = true) (hu : X.A.units + 100 < cLine) {pins : List (Addr × Obj)} {s : Shared} {σ : L2.St} {Q : VK} {u : Value} {a : Addr} {vs : List V} {ys : List D} {ps : List PyData} {x : D} (I : Inv X pins σ H s) (h1 : Rd H a (.lst vs)) (r1 : DRs G H N vs ys) (e1 : pys ys = some ps) (sh : SeqAt.shaped (.list ps) = true) (al : PySem.W.AlikeAll ps) (ne : ps ≠ []) (ex : ys[bestI PySem.W.dataLt ps]? = some x)
    (q : ∀ v, DR G H N v x → Q v H) : wpAny (model X.prog X.w) X.A (call (.builtin "min") [.ref a]) (EP X pins σ Q) X.xe s := by
  obtain ⟨its, rv, hl, _⟩ := I.list (.inl h1)
  obtain ⟨as, hr⟩ := Dp.readsAll I ps vs its (hG ▸ r1.dp _ e1) rv
  obtain ⟨v, ev, dv⟩ := r1.get ex
  obtain ⟨w, ew, rw_⟩ := rv.get ev
  have hn : its.length = ps.length := PySem.SeqAt.ReadsAll.length _ _ _ hr
  have hd := SeqAt.depth_of_shaped sh
  have hr' : ReadsAll s.heap its.toArray.toList ps as := by simpa using hr
  refine PySem.call_min_walkH (PySem.W.iter_listW (A := X.A.in1) (I.ok.hd hc) hl.isList fun s₂ e W st hfp hw hk => ?_)
  refine ⟨_, _, _, _, _, _, _, s.heap, _, rfl, W, st, hfp, by have := List.length_pos_iff.mpr ne; simp; omega, hw, hk, PySem.W.cmpIn_lt (A := X.A.in1) hr' al (by show X.A.units + 1 + PyData.depthAll ps < cLine; have hd : PyData.depthAll ps + 1 ≤ 64 := hd; omega), fun v' s' hP m => ?_⟩
  obtain ⟨h', tk, rfl, hk'⟩ := PySem.W.moved_old e rfl m
  have hP : its.toArray[bestI PySem.W.dataLt ps]? = some v' := by
    unfold bestI
    have e0 : its.toArray.size - 1 = ps.length - 1 := by simp [hn]
    rw [← e0]
    exact hP
  have ew' : its.toArray[bestI PySem.W.dataLt ps]? = some w := by simpa using ew
  rw [hP] at ew'
  cases ew'
  exact ⟨v, H, I.kept hk', rw_, q v dv⟩
theorem bi_ok (hG : G.K = X.K) (hc : X.calm = true) (hu : X.A.units + 100 < cLine) (hg : X.A.guards = some []) : ∀ b : BI, CallR X b.val (rDn G (biD b)) := by
  intro b pins s σ H xs us Q I rv ⟨N, ds, r, f, ts, er, q⟩
  cases b with
  | len =>
    match ds, er with
    | [.lst ys], er =>
      cases er
      obtain ⟨v, rfl, t⟩ := trs1 ts
      obtain ⟨a, vs, rfl, h1, r1⟩ := t.listR
      exact call_len_seq pins s σ H _ us Q I rv ⟨a, vs, rfl, .inl (.inl h1), q _ _ (by rw [r1.len]; exact .val (.int _))⟩
    | [.klst ys], er =>
      cases er
      obtain ⟨v, rfl, t⟩ := trs1 ts
      obtain ⟨a, vs, rfl, h1, r1⟩ := t.klstR
      exact call_len_seq pins s σ H _ us Q I rv ⟨a, vs, rfl, .inl (hG ▸ h1.sq), q _ _ (by rw [r1.len]; exact .val (.int _))⟩
    | [.tup ys], er =>
      cases er
      obtain ⟨v, rfl, t⟩ := trs1 ts
      obtain ⟨a, vs, rfl, h1, r1⟩ := t.tupR
      exact call_len_seq pins s σ H _ us Q I rv ⟨a, vs, rfl, .inr (hG ▸ h1), q _ _ (by rw [r1.len]; exact .val (.int _))⟩
    | [.str t], er =>
      obtain ⟨z, er⟩ := of_if (show (if t.length ≤ sizeLine then some (Val.d (.int t.length)) else none) = some r from er)
      subst er
      obtain ⟨v, rfl, k⟩ := trs1 ts
      exact call_len pins s σ H _ us Q I rv ⟨v, t.length, rfl, by rw [k.str]; exact ⟨z, rfl⟩, q _ _ (.val (.int _))⟩
  | abs =>
    match ds, er with
    | [.int i], er =>
      cases er
      obtain ⟨v, rfl, t⟩ := trs1 ts
      exact call_abs pins s σ H _ us Q I rv ⟨i, by rw [t.int], q _ _ (.val (.int _))⟩
  | isinst =>
    match ds, er with
    | [x, .ty n], er =>
      obtain ⟨k, e1, rfl⟩ := Option.map_eq_some_iff.mp (show (isiD x n).map (fun b => Val.d (.bl b)) = some r from er)
      obtain ⟨v, w, rfl, t1, t2⟩ := trs2 ts
      unfold isiD at e1
      by_cases ha : asked.contains n = true
      · rw [if_pos ha] at e1
        obtain ⟨t, e2, rfl⟩ := Option.map_eq_some_iff.mp e1
        cases t2 with
        | dr t2 =>
        cases t2
        exact call_isi pins s σ H _ us Q I rv ⟨v, _, .type t, .type n, _, rfl, .ty n, hG ▸ t1.ty e2, kit_ty (kit_all t (tyOf_mem e2) n (by simpa using ha)), q _ _ (.val (.bl _))⟩
      · rw [if_neg ha] at e1; cases e1
  | all =>
    match ds, er with
    | [.lst ys], er =>
      obtain ⟨bs, e1, rfl⟩ := Option.map_eq_some_iff.mp (show (boolsOf ys).map (fun bs => Val.d (.bl (bs.all id))) = some r from er)
      obtain ⟨v, rfl, t⟩ := trs1 ts
      obtain ⟨a, vs, rfl, h1, r1⟩ := t.listR
      exact cr_all hc pins s σ H _ us Q I rv ⟨a, bs, rfl, by rw [← r1.bools e1]; exact .inl h1, q _ _ (.val (.bl _))⟩
  | any =>
    match ds, er with
    | [.lst ys], er =>
      obtain ⟨bs, e1, rfl⟩ := Option.map_eq_some_iff.mp (show (boolsOf ys).map (fun bs => Val.d (.bl (bs.any id))) = some r from er)
      obtain ⟨v, rfl, t⟩ := trs1 ts
      obtain ⟨a, vs, rfl, h1, r1⟩ := t.listR
      exact cr_any hc pins s σ H _ us Q I rv ⟨a, bs, rfl, by rw [← r1.bools e1]; exact .inl h1, q _ _ (.val (.bl _))⟩
  | sum =>
    match ds, er with
    | [.lst ys], er =>
      obtain ⟨ns, e1, rfl⟩ := Option.map_eq_some_iff.mp (show (intsOf ys).map (fun ns => Val.d (.int ns.sum)) = some r from er)
      obtain ⟨v, rfl, t⟩ := trs1 ts
      obtain ⟨a, vs, rfl, h1, r1⟩ := t.listR
      exact cr_sum hc pins s σ H _ us Q I rv ⟨a, ns, rfl, by rw [← r1.ints e1]; exact .inl h1, q _ _ (.val (.int _))⟩
  | max =>
    match ds, er with
    | [.int i, .int j], er =>
      cases er
      obtain ⟨v, w, rfl, t1, t2⟩ := trs2 ts
      exact call_max2 hc pins s σ H _ us Q I rv ⟨i, j, by rw [t1.int, t2.int], q _ _ (.val (.int _))⟩
    | [.lst ys], er =>
      obtain ⟨ps, x, e1, sh, al, ne, ex, rfl⟩ := bestD_some (show bestD _ ys = some r from er)
      obtain ⟨v, rfl, t⟩ := trs1 ts
      obtain ⟨a, vs, rfl, h1, r1⟩ := t.listR
      rw [Vals.ref1 rv]
      exact best_max (u := .none) hG hc hu I h1 r1 e1 sh al ne ex fun w dw => q _ _ (.val dw)
  | min =>
    match ds, er with
    | [.int i, .int j], er =>
      cases er
      obtain ⟨v, w, rfl, t1, t2⟩ := trs2 ts
      exact call_min2 hc pins s σ H _ us Q I rv ⟨i, j, by rw [t1.int, t2.int], q _ _ (.val (.int _))⟩
    | [.lst ys], er =>
      obtain ⟨ps, x, e1, sh, al, ne, ex, rfl⟩ := bestD_some (show bestD _ ys = some r from er)
      obtain ⟨v, rfl, t⟩ := trs1 ts
      obtain ⟨a, vs, rfl, h1, r1⟩ := t.listR
      rw [Vals.ref1 rv]
      exact best_min (u := .none) hG hc hu I h1 r1 e1 sh al ne ex fun w dw => q _ _ (.val dw)
  | int =>
    match ds, er with
    | [.int i], er =>
      cases er
      obtain ⟨v, rfl, t⟩ := trs1 ts
      exact call_int1 pins s σ H _ us Q I rv (.inl ⟨i, by rw [t.int], q _ _ (.val (.int _))⟩)
    | [.bl k], er =>
      cases er
      obtain ⟨v, rfl, t⟩ := trs1 ts
      exact call_int1 pins s σ H _ us Q I rv (.inr ⟨k, by rw [t.bl], q _ _ (.val (.int _))⟩)
  | list =>
    match ds, er with
    | [.lst ys], er =>
      cases er
      obtain ⟨v, rfl, t⟩ := trs1 ts
      obtain ⟨a, vs, rfl, h1, r1⟩ := t.listR
      exact call_list_of pins s σ H _ us Q I rv ⟨a, vs, rfl, .inl (.inl h1), fun p hp => q _ _ (.lst hp r1)⟩
    | [.klst ys], er =>
      cases er
      obtain ⟨v, rfl, t⟩ := trs1 ts
      obtain ⟨a, vs, rfl, h1, r1⟩ := t.klstR
      exact call_list_of pins s σ H _ us Q I rv ⟨a, vs, rfl, .inl (hG ▸ h1.sq), fun p hp => q _ _ (.lst hp r1)⟩
    | [.tup ys], er =>
      cases er
      obtain ⟨v, rfl, t⟩ := trs1 ts
      obtain ⟨a, vs, rfl, h1, r1⟩ := t.tupR
      exact call_list_of pins s σ H _ us Q I rv ⟨a, vs, rfl, .inr (hG ▸ h1), fun p hp => q _ _ (.lst hp r1)⟩
  | tuple =>
    match ds, er with
    | [.lst ys], er =>
      cases er
      obtain ⟨v, rfl, t⟩ := trs1 ts
      obtain ⟨a, vs, rfl, h1, r1⟩ := t.listR
      exact call_tuple_of pins s σ H _ us Q I rv ⟨a, vs, rfl, .inl ⟨.inl h1, fun p hp => q _ _ (.tup f hp r1)⟩⟩
    | [.tup ys], er =>
      cases er
      obtain ⟨v, rfl, t⟩ := trs1 ts
      cases t with
      | dr t =>
      obtain ⟨a, vs, rfl, h1, r1, _⟩ := id t.tupR
      exact call_tuple_of pins s σ H _ us Q I rv ⟨a, vs, rfl, .inr ⟨hG ▸ h1, q _ _ (.val t)⟩⟩
  | sorted =>
    match ds, er with
    | [.lst ys], er =>
      obtain ⟨ns, e1, rfl⟩ := Option.map_eq_some_iff.mp (show (intsOf ys).map (fun ns => Val.own (.lst ((sortI ns).map .int))) = some r from er)
      obtain ⟨v, rfl, t⟩ := trs1 ts
      obtain ⟨a, vs, rfl, h1, r1⟩ := t.listR
      refine cr_sortedI pins s σ H _ us Q I rv ⟨a, ns, rfl, by rw [← r1.ints e1]; exact .inl h1, fun ms p pm rs hp => ?_⟩
      rw [sortI_same pm rs]
      exact q _ _ (.lst hp (drs_ints _))
    | [.dct ks ys], er =>
      obtain ⟨ns, e1, e2⟩ := Option.bind_eq_some_iff.mp (show (keyInts ks).bind (fun ns => if ns.length < 64 then some (Val.own (.lst ((sortI ns).map .int))) else none) = some r from er)
      obtain ⟨z, rfl⟩ := of_if e2
      obtain ⟨v, rfl, t⟩ := trs1 ts
      have go : ∀ {a : Addr} {vs : List V}, v = .ref a → Rd H a (.dK (ks.zip vs)) → ks.length = vs.length → wpAny (model X.prog X.w) X.A (call (.builtin "sorted") us) (EP X pins σ Q) X.xe s := fun {a vs} ev h l => by
        subst ev
        refine call_sortedDI hc pins s σ H _ us Q I rv ⟨a, _, ns, rfl, h, ?_, z, fun ms p pm rs hp => ?_⟩
        · rw [List.map_fst_zip (by omega)]; exact keyInts_map e1
        · rw [sortI_same pm rs]
          exact q _ _ (.lst hp (drs_ints _))
      cases t with
      | dr h => cases h with | dct h n l r1 => exact go rfl h l
      | dct h l r1 => exact go rfl (.inl h) l
  | repr =>
    match ds, er with
    | [x], er =>
      obtain ⟨p, e1, e2⟩ := Option.bind_eq_some_iff.mp (show x.py.bind (fun p => if (p.showable && decide (p.depth ≤ 40) && decide (p.shown.length ≤ sizeLine)) = true then some (Val.d (.str p.shown)) else none) = some r from er)
      obtain ⟨z, rfl⟩ := of_if e2
      simp only [Bool.and_eq_true, decide_eq_true_eq] at z
      obtain ⟨v, rfl, t⟩ := trs1 ts
      obtain ⟨u, rfl, ru⟩ := vals1 rv
      obtain ⟨as, rd⟩ := Dp.reads I p v u (hG ▸ t.dp e1) ru
      have nd := pyData_noDict x e1
      have go : ∀ a, u = .ref a → wpAny (model X.prog X.w) X.A (call (.builtin "repr") [u]) (EP X pins σ Q) X.xe s := fun a eu => by
        subst eu
        exact repr_of_reads' rd z.1.1 (fun w => by rw [nd] at w; cases w) hg (by omega) (fun _ _ e => e) (fun h' w tk k => ⟨.str _, H, I.kept k, ⟨_, rfl⟩, q _ _ (.val (.str _))⟩) z.2
      cases x with
      | non =>
        cases e1; cases t with | dr t => cases t; cases ru
                                         exact PySem.P.repr_of_none ⟨.str _, H, I.tok _, ⟨_, rfl⟩, q _ _ (.val (.str _))⟩
      | bl b =>
        cases e1; cases t with | dr t => cases t; cases ru
                                         exact PySem.P.repr_of_bool ⟨.str _, H, I.tok _, ⟨_, rfl⟩, q _ _ (.val (.str _))⟩
      | int i =>
        cases e1; cases t with | dr t => cases t; obtain ⟨tk, rfl⟩ := ru
                                         exact PySem.P.repr_of_int (of_decide_eq_true z.1.1) ⟨.str _, H, I.tok _, ⟨_, rfl⟩, q _ _ (.val (.str _))⟩
      | str i =>
        cases e1; cases t with | dr t => cases t; obtain ⟨tk, rfl⟩ := ru
                                         exact PySem.P.repr_of_str ⟨.str _, H, I.tok _, ⟨_, rfl⟩, q _ _ (.val (.str _))⟩ z.2
      | lst ys => obtain ⟨a, vs, rfl, _⟩ := t.listR; cases ru; exact go a rfl
      | tup ys => obtain ⟨a, vs, rfl, _⟩ := t.tupR; cases ru; exact go a rfl
      | _ => cases e1
  | bool => match ds, er with | [], er => cases er
  | str => match ds, er with | [], er => cases er
end
end Mi

set_option maxHeartbeats 4000000
/-! the forms of expressions -/
namespace Mi
open PySem PySem.Spec PyProof.Rows L2

section
variable {G : Gb} {W : WX} {X : Cx} {e a b c : Expr} {es : List Expr} {pos : Pos}

/-! ### constants, names -/
theorem ev_k {x : D} {v : V} (h : ∀ H N, DR G H N v x) (hp : PE X e (tC v)) : PE X e (tI G W fun _ S => .ok (.d x) S) :=
  PE_imp hp fun σ H Q ⟨M, ρ, E, S, hE, hS, g⟩ => g _ _ Step.refl ⟨hS, .d (h _ _)⟩
theorem ev_var {i : Nat} (hp : PE X e (tVar i)) : PE X e (tI G W fun E S => R.of (getV E i) S) :=
  PE_imp hp fun σ H Q ⟨M, ρ, E, S, hE, hS, g⟩ => by
    obtain ⟨x, ex, q⟩ := of_some g
    have e1 : E[i]? = some (some x) := by
      unfold getV at ex
      cases z : E[i]? with
      | none => rw [z] at ex; cases ex
      | some o => rw [z] at ex; cases o with
        | none => cases ex
        | some y => cases ex; rfl
    obtain ⟨v, h1, h2⟩ := hE.val i x e1
    refine ⟨v, h1, q v H Step.refl ?_⟩
    cases h2 with
    | d h => exact ⟨hS, .d h⟩
    | ref h => exact ⟨hS, .ref h⟩
theorem ev_glb {g : Nat} {Gs : List D} {x : D} {v : V} (hg : Gs[g]? = some x) (h : ∀ H N, DR G H N v x) (hp : PE X e (tC v)) : PE X e (tI G W fun _ S => R.of ((Gs[g]?).map .d) S) := by
  rw [hg]
  exact ev_k h hp

/-! ### two operands, one -/
theorem imp_op2 {ma mb : Sm} {f : D → D → Option Val} (σ : L2.St) (H : Hp) (Q : VK) : tI G W (op2 ma mb f) σ H Q → tOp (rD2 G f) (tI G W ma.ev) (tI G W mb.ev) σ H Q := by
  refine fun ⟨M, ρ, E, S, hE, hS, g⟩ => ⟨M, ρ, E, S, hE, hS, (Got.bind g).imp fun v S1 g x H1 t1 o1 => ⟨M, ρ, E, S1, hE.step t1, o1.sim, ((Got.bind g).later t1).imp fun u S2 g y H2 t2 o2 => ?_⟩⟩
  obtain ⟨r, er, q⟩ := of_some g
  obtain ⟨dx, e1, er⟩ := Option.bind_eq_some_iff.mp er
  obtain ⟨dy, e2, er⟩ := Option.bind_eq_some_iff.mp er
  have s2 := o2.sim
  refine ⟨Av M ρ S2, dx, dy, r, s2.fit, (o1.ar.step t2).peek s2 e1, o2.ar.peek s2 e2, er, fun w H' hr => ?_⟩
  obtain ⟨t3, o3⟩ := hr.out s2
  exact q w H' ((t1.trans t2).trans t3) (o3.later (t1.trans t2) hS)
theorem ev_un {ma : Sm} {f : D → Option Val} (h : PE X e (fun σ H Q => (tI G W ma.ev) σ H fun x H1 => rD1 G f x H1 Q)) : PE X e (tI G W (un ma f)) := by
  refine PE_imp h fun σ H Q ⟨M, ρ, E, S, hE, hS, g⟩ => ⟨M, ρ, E, S, hE, hS, (Got.bind g).imp fun v S1 g x H1 t1 o1 => ?_⟩
  obtain ⟨r, er, q⟩ := of_some g
  obtain ⟨dx, e1, er⟩ := Option.bind_eq_some_iff.mp er
  have s1 := o1.sim
  refine ⟨Av M ρ S1, dx, r, s1.fit, o1.ar.peek s1 e1, er, fun w H' hr => ?_⟩
  obtain ⟨t3, o3⟩ := hr.out s1
  exact q w H' (t1.trans t3) (o3.later t1 hS)
theorem un_negD : UnR X (unaryOp .USub) (rD1 G negD) := by
  intro pins s σ H x v Q I rx ⟨N, d, r, f, tx, er, q⟩
  cases d with
  | int i =>
    cases er
    rw [tx.int] at rx
    exact un_neg pins s σ H _ v Q I rx ⟨i, rfl, q _ _ (.val (.int _))⟩
  | _ => cases er
theorem ev_neg {ma : Sm} (ha : PE X a (tI G W ma.ev)) : PE X (.UnaryOp .USub a pos) (tI G W (un ma negD)) := ev_un (pe_un un_negD ha)
theorem ev_bin {ma mb : Sm} {op : Operator} (hG : G.K = X.K) (ha : PE X a (tI G W ma.ev)) (hb : PE X b (tI G W mb.ev)) : PE X (.BinOp a op b pos) (tI G W (op2 ma mb (binD op))) :=
  PE_imp (pe_op (op_binD hG op) ha hb) imp_op2
theorem ev_cmp {ma mb : Sm} {op : CmpOp} (hG : G.K = X.K) (hu : X.A.units + 100 < cLine) (hm : behindInMarks op b = false) (ha : PE X a (tI G W ma.ev)) (hb : PE X b (tI G W mb.ev)) : PE X (.Compare a [op] [b] pos) (tI G W (op2 ma mb (cmpV op))) :=
  PE_imp (pe_cmpR (op_cmpD hG (by omega) op) ha hb hm) imp_op2
theorem ev_ix {ma mb : Sm} (hG : G.K = X.K) (hu : X.A.units + 100 < cLine) (hs : PlainIx b) (ha : PE X a (tI G W ma.ev)) (hb : PE X b (tI G W mb.ev)) : PE X (.Subscript a b pos) (tI G W (op2 ma mb fun x y => (ixD x y).map .d)) :=
  PE_imp (pe_ix (ix_D hG (by omega)) ha hb hs) imp_op2
/-- a test from a value that is a truth value -/
theorem ts_of {f : Env → Store → R Val} (hb : ∀ E S x S', f E S = .ok x S' → ∃ k, x = .d (.bl k)) (h : PT X e (tTest (tI G W f))) : PT X e (tT G W (Sm.v f).ts) := by
  refine PT_imp h fun σ H Q ⟨M, ρ, E, S, hE, hS, g⟩ => ⟨M, ρ, E, S, hE, hS, ?_⟩
  have g := Got.bind g
  cases q : f E S with
  | no => rw [q] at g; exact g.elim
  | ex c a S' => rw [q] at g; exact g
  | ok x S' =>
    rw [q] at g
    obtain ⟨k, rfl⟩ := hb E S x S' q
    have g : Got G W M σ ρ S H (R.of ((Val.peek S' (.d (.bl k))).bind truD) S') (fun b S' => ∀ H', Step ρ S H S' H' → Sim G M H' ρ S' → Q b H') := g
    obtain ⟨b, eb, g⟩ := of_some g
    cases eb
    intro v H' t o
    obtain ⟨s1, r⟩ := id o
    cases r with
    | d r => cases r; exact ⟨k, rfl, g H' t s1⟩
theorem ts_cmp {ma mb : Sm} {op : CmpOp} (hG : G.K = X.K) (hu : X.A.units + 100 < cLine) (hm : behindInMarks op b = false) (ha : PE X a (tI G W ma.ev)) (hb : PE X b (tI G W mb.ev)) : PT X (.Compare a [op] [b] pos) (tT G W (Sm.v (op2 ma mb (cmpV op))).ts) := by
  refine ts_of (fun E S x S' h => ?_) (PT_imp (pt_cmpR (op_cmpD hG (by omega) op) ha hb hm) fun σ H Q => imp_op2 σ H _)
  unfold op2 at h
  cases h1 : ma.ev E S with
  | no => rw [h1] at h; cases h
  | ex c a S' => rw [h1] at h; cases h
  | ok v S1 =>
    rw [h1, R.bind_ok] at h
    cases h2 : mb.ev E S1 with
    | no => rw [h2] at h; cases h
    | ex c a S' => rw [h2] at h; cases h
    | ok u S2 =>
      rw [h2, R.bind_ok] at h
      cases h3 : ((v.peek S2).bind fun x => (u.peek S2).bind fun y => cmpV op x y) with
      | none => rw [h3] at h; cases h
      | some r =>
        rw [h3] at h
        cases h
        obtain ⟨dx, e1, er⟩ := Option.bind_eq_some_iff.mp h3
        obtain ⟨dy, e2, er⟩ := Option.bind_eq_some_iff.mp er
        obtain ⟨k, _, rfl⟩ := cmpV_some er
        exact ⟨k, rfl⟩
end

/-! ### chains -/
section
variable {G : Gb} {W : WX} {X : Cx} {e a b c : Expr} {es : List Expr} {pos : Pos}
theorem Out.d {M : Addr → Prop} {H : Hp} {ρ : List Addr} {S' : Store} {v : V} {H' : Hp} {x : D} (h : Out G M H ρ S' v H' (.d x)) : DR G H' (Av M ρ S') v x := by
  obtain ⟨_, r⟩ := h
  cases r with
  | d h => exact h
theorem imp_chn {ma mb mc : Sm} {o1 o2 : CmpOp} (σ : L2.St) (H : Hp) (Q : VK) : tI G W (chain o1 o2 ma mb mc) σ H Q → tChain (rD2 G (cmpV o1)) (rD2 G (cmpV o2)) (tI G W ma.ev) (tI G W mb.ev) (tI G W mc.ev) σ H Q := by
  intro ⟨M, ρ, E, S, hE, hS, g⟩
  refine ⟨M, ρ, E, S, hE, hS, (Got.bind g).imp fun v S1 g x H1 t1 q1 => ⟨M, ρ, E, S1, hE.step t1, q1.sim, ((Got.bind g).later t1).imp fun u S2 g y H2 t2 q2 => ?_⟩⟩
  obtain ⟨k, ek, g⟩ := of_some (Got.bind g)
  obtain ⟨dx, e1, ek⟩ := Option.bind_eq_some_iff.mp ek
  obtain ⟨dy, e2, ek⟩ := Option.bind_eq_some_iff.mp ek
  have s2 := q2.sim
  refine ⟨Av M ρ S2, dx, dy, .d (.bl k), s2.fit, (q1.ar.step t2).peek s2 e1, q2.ar.peek s2 e2, by unfold cmpV; rw [ek]; rfl, fun w H' hr => ?_⟩
  obtain ⟨t3, q3⟩ := hr.out s2
  obtain ⟨_, hw⟩ := hr
  cases hw
  refine ⟨k, rfl, ?_⟩
  cases k with
  | false =>
    exact g _ H' ((t1.trans t2).trans t3) (q3.later (t1.trans t2) hS)
  | true =>
    refine ⟨M, ρ, E, S2, hE.step ((t1.trans t2).trans t3), q3.sim, ((Got.bind g).later ((t1.trans t2).trans t3)).imp fun z S3 g w H4 t4 q4 => ?_⟩
    obtain ⟨r, er, g⟩ := of_some g
    obtain ⟨d2, e3, er⟩ := Option.bind_eq_some_iff.mp er
    obtain ⟨d3, e4, er⟩ := Option.bind_eq_some_iff.mp er
    have s4 := q4.sim
    refine ⟨Av M ρ S3, d2, d3, r, s4.fit, ((q2.ar.step t3).step t4).peek s4 e3, q4.ar.peek s4 e4, er, fun w H' hr => ?_⟩
    obtain ⟨t5, q5⟩ := hr.out s4
    have t6 := ((t1.trans t2).trans t3).trans t4
    exact g w H' (t6.trans t5) (q5.later t6 hS)

theorem ev_chn {ma mb mc : Sm} {o1 o2 : CmpOp} (hG : G.K = X.K) (hu : X.A.units + 100 < cLine) (hm : lastMarks [o1, o2] [b, c] = false) (ha : PE X a (tI G W ma.ev)) (hb : PE X b (tI G W mb.ev)) (hc : PE X c (tI G W mc.ev)) :
    PE X (.Compare a [o1, o2] [b, c] pos) (tI G W (chain o1 o2 ma mb mc)) := PE_imp (pe_chain (op_cmpD hG (by omega) o1) (op_cmpD hG (by omega) o2) ha hb hc hm) imp_chn
theorem chain_bl {ma mb mc : Sm} {o1 o2 : CmpOp} {E : Env} {S S' : Store} {x : Val} (h : chain o1 o2 ma mb mc E S = .ok x S') : ∃ k, x = .d (.bl k) := by
  unfold chain at h
  cases h1 : ma.ev E S with
  | no => rw [h1] at h; cases h
  | ex c a S' => rw [h1] at h; cases h
  | ok v S1 =>
    rw [h1, R.bind_ok] at h
    cases h2 : mb.ev E S1 with
    | no => rw [h2] at h; cases h
    | ex c a S' => rw [h2] at h; cases h
    | ok u S2 =>
      rw [h2, R.bind_ok] at h
      cases h3 : ((v.peek S2).bind fun x => (u.peek S2).bind fun y => cmpD o1 x y) with
      | none => rw [h3] at h; cases h
      | some k =>
        rw [h3, R.of_some, R.bind_ok] at h
        cases k with
        | false => cases h; exact ⟨_, rfl⟩
        | true =>
          rw [if_pos rfl] at h
          cases h4 : mc.ev E S2 with
          | no => rw [h4] at h; cases h
          | ex c a S' => rw [h4] at h; cases h
          | ok w S3 =>
            rw [h4, R.bind_ok] at h
            cases h5 : ((u.peek S3).bind fun y => (w.peek S3).bind fun z => cmpV o2 y z) with
            | none => rw [h5] at h; cases h
            | some r =>
              rw [h5] at h
              cases h
              obtain ⟨dx, e1, er⟩ := Option.bind_eq_some_iff.mp h5
              obtain ⟨dy, e2, er⟩ := Option.bind_eq_some_iff.mp er
              obtain ⟨k, _, rfl⟩ := cmpV_some er
              exact ⟨k, rfl⟩
theorem ts_chn {ma mb mc : Sm} {o1 o2 : CmpOp} (hG : G.K = X.K) (hu : X.A.units + 100 < cLine) (hm : lastMarks [o1, o2] [b, c] = false) (ha : PE X a (tI G W ma.ev)) (hb : PE X b (tI G W mb.ev)) (hc : PE X c (tI G W mc.ev)) :
    PT X (.Compare a [o1, o2] [b, c] pos) (tT G W (Sm.v (chain o1 o2 ma mb mc)).ts) :=
  ts_of (fun _ _ _ _ h => chain_bl h) (PT_imp (pt_chain (op_cmpD hG (by omega) o1) (op_cmpD hG (by omega) o2) ha hb hc hm) fun σ H Q => imp_chn σ H _)

/-! ### and, or, not, if-else -/
theorem ev_not {ma : Sm} (ha : PE X a (tI G W ma.ev)) : PE X (.UnaryOp .Not a pos) (tI G W (un ma notD)) := by
  refine PE_imp (pe_not ha) fun σ H Q ⟨M, ρ, E, S, hE, hS, g⟩ => ⟨M, ρ, E, S, hE, hS, (Got.bind g).imp fun v S1 g x H1 t1 o1 => ?_⟩
  obtain ⟨r, er, q⟩ := of_some g
  obtain ⟨dx, e1, er⟩ := Option.bind_eq_some_iff.mp er
  have s1 := o1.sim
  have tr := o1.ar.peek s1 e1
  cases dx with
  | bl k =>
    cases er
    exact ⟨k, tr.bl, q _ H1 t1 ⟨s1, .d (.bl _)⟩⟩
  | _ => cases er
theorem ts_not {ma : Sm} (ha : PT X a (tT G W ma.ts)) : PT X (.UnaryOp .Not a pos) (tT G W fun E S => (ma.ts E S).bind fun b S1 => .ok (!b) S1) :=
  PT_imp (pt_not ha) fun σ H Q ⟨M, ρ, E, S, hE, hS, g⟩ => ⟨M, ρ, E, S, hE, hS, (Got.bind g).imp fun b S1 g H1 t1 s1 => g H1 t1 s1⟩
theorem ev_ife {mt ma mb : Sm} (ht : PT X e (tT G W mt.ts)) (ha : PE X a (tI G W ma.ev)) (hb : PE X b (tI G W mb.ev)) :
    PE X (.IfExp e a b pos) (tI G W fun E S => (mt.ts E S).bind fun c S1 => if c then ma.ev E S1 else mb.ev E S1) := by
  refine PE_imp (pe_ifExp ht ha hb) fun σ H Q ⟨M, ρ, E, S, hE, hS, g⟩ => ⟨M, ρ, E, S, hE, hS, (Got.bind g).imp fun c S1 g H1 t1 s1 => ?_⟩
  have later : ∀ {m : Sm}, Got G W M σ ρ S H (m.ev E S1) (fun x S' => ∀ v H', Step ρ S H S' H' → Out G M H ρ S' v H' x → Q v H') → tI G W m.ev σ H1 Q := fun g =>
    ⟨M, ρ, E, S1, hE.step t1, s1, (g.later t1).imp fun x S2 q v H2 t2 o2 => q v H2 (t1.trans t2) (o2.later t1 hS)⟩
  cases c with
  | true => exact later g
  | false => exact later g
theorem ev_and1 {ma : Sm} (ha : PE X a (tI G W ma.ev)) : PE X (.BoolOp .And [a] pos) (tI G W (evAnd [ma])) := PE_imp (pe_one ha) fun _ _ _ h => h
theorem ev_or1 {ma : Sm} (ha : PE X a (tI G W ma.ev)) : PE X (.BoolOp .Or [a] pos) (tI G W (evOr [ma])) := PE_imp (pe_one ha) fun _ _ _ h => h
theorem ev_and {ma mb : Sm} {ms : List Sm} (ha : PE X a (tI G W ma.ev)) (hb : PE X (.BoolOp .And (b :: es) pos) (tI G W (evAnd (mb :: ms)))) : PE X (.BoolOp .And (a :: b :: es) pos) (tI G W (evAnd (ma :: mb :: ms))) := by
  refine PE_imp (pe_and ha hb) fun σ H Q ⟨M, ρ, E, S, hE, hS, g⟩ => ⟨M, ρ, E, S, hE, hS, (Got.bind g).imp fun v S1 g x H1 t1 o1 => ?_⟩
  match v, g, o1 with
  | .d (.bl true), g, o1 =>
    have r := o1.d
    cases r
    exact ⟨true, rfl, M, ρ, E, S1, hE.step t1, o1.sim, (g.later t1).imp fun x S2 q v H2 t2 o2 => q v H2 (t1.trans t2) (o2.later t1 hS)⟩
  | .d (.bl false), g, o1 =>
    have r := o1.d
    cases r
    exact ⟨false, rfl, g _ H1 t1 o1⟩
theorem ev_or {ma mb : Sm} {ms : List Sm} (ha : PE X a (tI G W ma.ev)) (hb : PE X (.BoolOp .Or (b :: es) pos) (tI G W (evOr (mb :: ms)))) : PE X (.BoolOp .Or (a :: b :: es) pos) (tI G W (evOr (ma :: mb :: ms))) := by
  refine PE_imp (pe_or ha hb) fun σ H Q ⟨M, ρ, E, S, hE, hS, g⟩ => ⟨M, ρ, E, S, hE, hS, (Got.bind g).imp fun v S1 g x H1 t1 o1 => ?_⟩
  match v, g, o1 with
  | .d (.bl false), g, o1 =>
    have r := o1.d
    cases r
    exact ⟨false, rfl, M, ρ, E, S1, hE.step t1, o1.sim, (g.later t1).imp fun x S2 q v H2 t2 o2 => q v H2 (t1.trans t2) (o2.later t1 hS)⟩
  | .d (.bl true), g, o1 =>
    have r := o1.d
    cases r
    exact ⟨true, rfl, g _ H1 t1 o1⟩
theorem ts_and1 {ma : Sm} (ha : PT X a (tT G W ma.ts)) : PW X (.BoolOp .And [a] pos) (tT G W (tsAnd [ma])) := PW_imp (pw_and1 ha) fun _ _ _ h => h
theorem ts_or1 {ma : Sm} (ha : PT X a (tT G W ma.ts)) : PW X (.BoolOp .Or [a] pos) (tT G W (tsOr [ma])) := PW_imp (pw_or1 ha) fun _ _ _ h => h
theorem ts_and {ma mb : Sm} {ms : List Sm} (ha : PT X a (tT G W ma.ts)) (hb : PW X (.BoolOp .And (b :: es) pos) (tT G W (tsAnd (mb :: ms)))) : PW X (.BoolOp .And (a :: b :: es) pos) (tT G W (tsAnd (ma :: mb :: ms))) := by
  refine PW_imp (pw_and ha hb) fun σ H Q ⟨M, ρ, E, S, hE, hS, g⟩ => ⟨M, ρ, E, S, hE, hS, (Got.bind g).imp fun c S1 g H1 t1 s1 => ?_⟩
  cases c with
  | true => exact ⟨M, ρ, E, S1, hE.step t1, s1, (Got.later t1 g).imp fun b S2 q H2 t2 s2 => q H2 (t1.trans t2) s2⟩
  | false => exact g H1 t1 s1
theorem ts_or {ma mb : Sm} {ms : List Sm} (ha : PT X a (tT G W ma.ts)) (hb : PW X (.BoolOp .Or (b :: es) pos) (tT G W (tsOr (mb :: ms)))) : PW X (.BoolOp .Or (a :: b :: es) pos) (tT G W (tsOr (ma :: mb :: ms))) := by
  refine PW_imp (pw_or ha hb) fun σ H Q ⟨M, ρ, E, S, hE, hS, g⟩ => ⟨M, ρ, E, S, hE, hS, (Got.bind g).imp fun c S1 g H1 t1 s1 => ?_⟩
  cases c with
  | false => exact ⟨M, ρ, E, S1, hE.step t1, s1, (Got.later t1 g).imp fun b S2 q H2 t2 s2 => q H2 (t1.trans t2) s2⟩
  | true => exact g H1 t1 s1

/-! ### arguments, displays -/
theorem as_nil : PA X [] (tAs G W (evAll [])) := PA_imp pa_nil fun σ H Q ⟨M, ρ, E, S, hE, hS, g⟩ => g _ _ Step.refl hS .nil
theorem as_cons {ma : Sm} {ms : List Sm} (ha : PE X a (tI G W ma.ev)) (hr : PA X es (tAs G W (evAll ms))) (hs : starEach (a :: es) X.env = (false, eval a X.env) :: starEach es X.env) : PA X (a :: es) (tAs G W (evAll (ma :: ms))) := by
  refine PA_imp (pa_cons ha hr hs) fun σ H Q ⟨M, ρ, E, S, hE, hS, g⟩ => ⟨M, ρ, E, S, hE, hS, (Got.bind g).imp fun v S1 g x H1 t1 o1 => ?_⟩
  exact ⟨M, ρ, E, S1, hE.step t1, o1.sim, ((Got.bind g).later t1).imp fun xs S2 q vs H2 t2 s2 r => q _ H2 (t1.trans t2) s2 (.cons (o1.ar.step t2) r)⟩
theorem ev_tup {ms : List Sm} {kk : Nat} (h : PA X es (tAs G W (evAll ms))) :
    PE X (.Tuple es kk pos) (tI G W fun E S => (evAll ms E S).bind fun vs S1 => R.of ((strictAll vs).bind fun xs => if xs.length ≤ sizeLine then some (.d (.tup xs)) else none) S1) := by
  refine PE_imp (pe_tup h) fun σ H Q ⟨M, ρ, E, S, hE, hS, g⟩ => ⟨M, ρ, E, S, hE, hS, (Got.bind g).imp fun xs S1 g vs H1 t1 s1 r => ?_⟩
  obtain ⟨y, ey, q⟩ := of_some g
  obtain ⟨ds, e1, e2⟩ := Option.bind_eq_some_iff.mp ey
  obtain ⟨z, rfl⟩ := of_if e2
  have rs := ARs.strict r e1
  refine ⟨by rw [rs.len]; exact z, fun p hp => ?_⟩
  obtain ⟨t2, o2⟩ := (Res.tup s1.fit hp rs).out s1
  exact q _ _ (t1.trans t2) (o2.later t1 hS)
theorem ev_lst {ms : List Sm} (h : PA X es (tAs G W (evAll ms))) :
    PE X (.List es pos) (tI G W fun E S => (evAll ms E S).bind fun vs S1 => R.of ((strictAll vs).bind fun xs => if xs.length ≤ sizeLine then some (.own (.lst xs)) else none) S1) := by
  refine PE_imp (pe_lst h) fun σ H Q ⟨M, ρ, E, S, hE, hS, g⟩ => ⟨M, ρ, E, S, hE, hS, (Got.bind g).imp fun xs S1 g vs H1 t1 s1 r => ?_⟩
  obtain ⟨y, ey, q⟩ := of_some g
  obtain ⟨ds, e1, e2⟩ := Option.bind_eq_some_iff.mp ey
  obtain ⟨z, rfl⟩ := of_if e2
  have rs := ARs.strict r e1
  refine ⟨by rw [rs.len]; exact z, fun p hp => ?_⟩
  obtain ⟨t2, o2⟩ := (Res.lst hp rs).out s1
  exact q _ _ (t1.trans t2) (o2.later t1 hS)
/-- a slice's part -/
def tPt (m : Env → Store → R (Option Int)) : TO := fun σ H Q => ∃ M ρ E S, EnvR G H (Av M ρ S) ρ σ E ∧ Sim G M H ρ S ∧ Got G W M σ ρ S H (m E S) fun o S' => ∀ H', Step ρ S H S' H' → Sim G M H' ρ S' → Q o H'
theorem PO_imp {e : Option Expr} {t t' : TO} (h : PO X e t) (f : ∀ σ H Q, t' σ H Q → t σ H Q) : PO X e t' := ⟨fun p s σ H Q I q => h.run p s σ H Q I (f σ H Q q)⟩
theorem pt_none' : PO X none (tPt (G := G) (W := W) (evPart none)) := PO_imp po_none fun σ H Q ⟨M, ρ, E, S, hE, hS, g⟩ => g H Step.refl hS
theorem pt_some' {m : Sm} (h : PE X e (tI G W m.ev)) : PO X (some e) (tPt (G := G) (W := W) (evPart (some m))) := by
  refine PO_imp (po_some h) fun σ H Q ⟨M, ρ, E, S, hE, hS, g⟩ => ⟨M, ρ, E, S, hE, hS, (Got.bind g).imp fun v S1 g x H1 t1 o1 => ?_⟩
  match v, g, o1 with
  | .d (.int i), g, o1 =>
    have r := o1.d
    cases r
    exact ⟨i, rfl, g H1 t1 o1.sim⟩
theorem ev_slc {ma : Sm} {ml mh : Option Sm} {lo hi : Option Expr} {p2 : Pos} (hG : G.K = X.K) (ha : PE X a (tI G W ma.ev)) (hl : PO X lo (tPt (G := G) (W := W) (evPart ml))) (hh : PO X hi (tPt (G := G) (W := W) (evPart mh))) :
    PE X (.Subscript a (.Slice lo hi none p2) pos) (tI G W fun E S => (ma.ev E S).bind fun v S1 => (evPart ml E S1).bind fun l S2 => (evPart mh E S2).bind fun h S3 => R.of ((v.peek S3).bind fun x => slcD x l h) S3) := by
  refine PE_imp (pe_slice (sl_D hG) ha hl hh) fun σ H Q ⟨M, ρ, E, S, hE, hS, g⟩ => ⟨M, ρ, E, S, hE, hS, (Got.bind g).imp fun v S1 g x H1 t1 o1 => ?_⟩
  refine ⟨M, ρ, E, S1, hE.step t1, o1.sim, ((Got.bind g).later t1).imp fun l S2 g H2 t2 s2 => ?_⟩
  have t12 := t1.trans t2
  refine ⟨M, ρ, E, S2, hE.step t12, s2, ((Got.bind g).later t12).imp fun h S3 g H3 t3 s3 => ?_⟩
  obtain ⟨r, er, q⟩ := of_some g
  obtain ⟨dx, e1, er⟩ := Option.bind_eq_some_iff.mp er
  refine ⟨Av M ρ S3, dx, r, s3.fit, ((o1.ar.step t2).step t3).peek s3 e1, er, fun w H' hr => ?_⟩
  obtain ⟨t4, o4⟩ := hr.out s3
  have t5 := t12.trans t3
  exact q w H' (t5.trans t4) (o4.later t5 hS)
/-- built-in functions -/
theorem imp_bi {ms : List Sm} {b : BI} (σ : L2.St) (H : Hp) (Q : VK) : tI G W (fun E S => (evAll ms E S).bind fun vs S1 => R.of ((peeks S1 vs).bind (biD b)) S1) σ H Q → tCB (rDn G (biD b)) (tAs G W (evAll ms)) σ H Q := by
  intro ⟨M, ρ, E, S, hE, hS, g⟩
  refine ⟨M, ρ, E, S, hE, hS, (Got.bind g).imp fun xs S1 g vs H1 t1 s1 r => ?_⟩
  obtain ⟨y, ey, q⟩ := of_some g
  obtain ⟨ds, e1, e2⟩ := Option.bind_eq_some_iff.mp ey
  refine ⟨Av M ρ S1, ds, y, s1.fit, ARs.peeks s1 r e1, e2, fun w H' hr => ?_⟩
  obtain ⟨t2, o2⟩ := hr.out s1
  exact q w H' (t1.trans t2) (o2.later t1 hS)
theorem ev_bi {ms : List Sm} {b : BI} {p : Pos} {x : Str} (hx : x = Str.ofString b.id) (hG : G.K = X.K) (hc : X.calm = true) (hu : X.A.units + 100 < cLine) (hg : X.A.guards = some []) (hgl : Gl X x) (hm : X.mg x = none)
    (h : PA X (a :: es) (tAs G W (evAll ms))) (hd : (x == ("__debug__" : Str)) = false) (he : starEach (a :: es) X.env = (false, eval a X.env) :: starEach es X.env) (hpl : (backTo pos (starEach es X.env)).any (·.1) = false) :
    PE X (.Call (.Name x p) (a :: es) [] pos) (tI G W fun E S => (evAll ms E S).bind fun vs S1 => R.of ((peeks S1 vs).bind (biD b)) S1) := by
  have hn : x ≠ "__name__" := by subst hx; cases b <;> decide +kernel
  have hb := BI.boot b
  rw [← hx] at hb
  have ok := bi_ok (X := X) (G := G) hG hc hu hg b
  unfold BI.val at hb ok
  by_cases z : b.ty = true
  · rw [if_pos z] at hb ok
    exact PE_imp (pe_callTy ok hgl hm hb h hn hd he hpl) imp_bi
  · rw [if_neg z] at hb ok
    exact PE_imp (pe_callB ok hgl hm hb h hn hd he hpl) imp_bi
end
end Mi

set_option maxHeartbeats 4000000
/-! defs, calls, targets, comprehensions -/
namespace Mi
open PySem PySem.Spec PyProof.Rows L2

/-! ### what a def promises, where no guard is set -/
structure FnG (P : Program) (w : World) (K : PySem.W.Frag) (mg : Str → Option Value) (base : Heap) (k : Nat) (f : Addr) (fd : FuncData) (ps : List Str) (sp : Sp) : Prop where
  len : ∀ vs H Q E, sp vs H Q E → vs.length = ps.length
  run : ∀ (A : Around) (outer : List PySem.Env) (s : Shared) (H : Hp) (args : Args) (us : List Value) (vs : List V) (Q : VK) (E : XK), Room k A → A.guards = some [] → Env0 P w K mg base A outer s H →
    BindsTo s fd args (ps.zip us) → Vals vs us → sp vs H Q E → codeAny (model P w) A (.call (.ref f) args) (CR (L2.CX P w) outer P w H s Q E) s
theorem FnG.mono {P : Program} {w : World} {K : PySem.W.Frag} {mg : Str → Option Value} {base : Heap} {j k : Nat} {f : Addr} {fd : FuncData} {ps : List Str} {sp : Sp} (F : FnG P w K mg base j f fd ps sp) (h : j ≤ k) : FnG P w K mg base k f fd ps sp :=
  ⟨F.len, fun A outer s H args us vs Q E hr => F.run A outer s H args us vs Q E (hr.mono h)⟩
section
variable {X : Cx} {W : WX} {k : Nat} {f : Addr} {fd : FuncData} {ps : List Str} {sp : Sp}
theorem run_g {pins : List (Addr × Obj)} {σ : L2.St} {H : Hp} {s : Shared} {Q : VK} {us : List Value} {vs : List V} (F : FnG X.prog X.w X.K X.mg X.base k f fd ps sp) (hr : Room k X.A) (hg : X.A.guards = some []) (hb : Binds X.K fd ps []) (tk : Takes X W)
    (I : Inv X pins σ H s) (r : Vals vs us) (h : sp vs H Q (WE W σ)) : wpAny (model X.prog X.w) X.A (call (.ref f) us) (EP X pins σ Q) X.xe s := by
  have hl : (us ++ []).length = ps.length := by rw [List.append_nil, ← r.length]; exact F.len _ _ _ _ h
  have b := hb s us I.kIn hl
  rw [List.append_nil] at b
  refine wpAny_call (codeAny_mono (F.run X.A X.stack s H ⟨us, []⟩ us vs Q (WE W σ) hr hg I.env0 b r h) fun r s' q => ?_)
  match r, q with
  | .error e, q => exact passAt tk σ pins H s e s' I q
  | .ok (.ret u), q => exact I.after q
end
theorem fn_g {P : Program} {w : World} {K : PySem.W.Frag} {mg : Str → Option Value} {base : Heap} {k : Nat} {f : Addr} {x qual : Str} {st : Stmt} {fd : FuncData} {N ps : List Str} {sp : Sp} (F : Fun K x qual st f fd) (S : FnScope N ps (defScope st)) (len : ∀ vs H Q E, sp vs H Q E → vs.length = ps.length)
    (body : ∀ (cdv : Value) (A : Around) (outer : List PySem.Env) (s : Shared) (H : Hp) (vs : List V) (Q : VK) (E : XK), Room k (A.deeper (envOfC qual (defScope st) s.heap.objs.size f cdv)) → A.guards = some [] → sp vs H Q E →
      ∃ t, PSs (cxOf (L2.CX P w) P w K mg base N qual (defScope st) f cdv A outer s H E) (defBody st) t ∧ t { nx := fun _ H' => Q .non H', rt := Q } (start N vs) H) : FnG P w K mg base (k + 1) f fd ps sp := by
  obtain ⟨oc, od, kV, doc, pm, an, cdv, ct, osl, rfl, lk, hcd⟩ := F.ex
  refine ⟨len, fun A outer s H args us vs Q E hr hg e0 hb r hsp => ?_⟩
  have KX : K.In s.heap := e0.mod.kin.keeps fun b o e => (e0.bs b o e).1
  have lim : s.heap.NoLimit := e0.mod.nolimit.keeps fun b o e => (e0.bs b o e).1
  have kinds : ∀ y ∈ ps.zip us, (defScope st).names.lookup y.1 = some .local ∨ ((defScope st).names.lookup y.1 = some .cell ∧ ((cellsFrom (s.heap.objs.size + 1) (defScope st).names []).lookup y.1).isSome = true) := fun ⟨n, v⟩ hy =>
    (S.par n (List.of_mem_zip hy).1).imp id fun q => ⟨q, PySem.W.cellsFrom_some _ _ _ (.inl q)⟩
  refine codeAny_call_function hr.depth (KX _ _ lk) rfl S.co S.gen rfl (PySem.W.codeRec_of KX hcd) (hb _ _ _ _ ?_)
  refine wpAny_newFunctionEnv_cells S.kind kinds fun env he s1 z => ?_
  subst he
  refine ⟨lim.keeps z.toInCall.keep, codeAny_func ?_⟩
  obtain ⟨t, ht, hq⟩ := body cdv A outer s H vs Q E (hr.deeper _) hg hsp
  have I := inv_start (CX := L2.CX P w) (P := P) (w := w) (mg := mg) (E := E) S hr.hd e0 (len _ _ _ _ hsp) r z
  refine wpAny_mono (ht.run [] s1 (start N vs) H _ I hq) (fun fl s' hs => ?_) fun e s' hs => hs
  match fl, hs with
  | .ret u, ⟨v, σ', H', J, rv, q⟩ => exact ⟨v, H', J.os, J.bare, J.base, J.hok, rv, q⟩
  | .next, ⟨σ', H', J, q⟩ => exact ⟨.non, H', J.os, J.bare, J.base, J.hok, rfl, q⟩
  | .brk, ⟨_, _, _, q⟩ => exact q.elim
  | .cont, ⟨_, _, _, q⟩ => exact q.elim

/-- the promise that a function of the small language stands for -/
def spM (G : Gb) (F : List Val → Store → R Val) : Sp := fun vs H Q E => ∃ M ρ S xs, Sim G M H ρ S ∧ Paired (VR G H (Av M ρ S) ρ) vs xs ∧ Got G (fun cls d _ H => E cls d H) M [] ρ S H (F xs S) fun x S' => ∀ v H', Step ρ S H S' H' → Out G M H ρ S' v H' x → Q v H'
theorem got_slots {G : Gb} {W W' : WX} {σ σ' : L2.St} {M : Addr → Prop} {ρ : List Addr} {S : Store} {H : Hp} {α : Type} {r : R α} {P : α → Store → Prop} (h : ∀ cls d H, W cls d σ H → W' cls d σ' H) (g : Got G W M σ ρ S H r P) : Got G W' M σ' ρ S H r P := by
  cases r with
  | ok x S' => exact g
  | ex c a S' => exact fun cls d H' t s e => h _ _ _ (g cls d H' t s e)
  | no => exact g
section
variable {G : Gb} {W : WX} {X : Cx} {e a b c : Expr} {es : List Expr} {pos p : Pos}
theorem ev_call {ms : List Sm} {F : List Val → Store → R Val} {k : Nat} {f : Addr} {x : Str} {fd : FuncData} {ps : List Str} (hF : FnG X.prog X.w X.K X.mg X.base k f fd ps (spM G F)) (hr : Room k X.A) (hg : X.A.guards = some []) (hb : Binds X.K fd ps []) (tk : Takes X W)
    (hgl : Gl X x) (hm : X.mg x = some (.ref f)) (hk : PySem.W.keepIn X.K (.ref f) = true) (hdb : (x == ("__debug__" : Str)) = false) (h : PA X es (tAs G W (evAll ms))) (hn : es = [] → ms = [])
    (he : ∀ a r, es = a :: r → starEach es X.env = (false, eval a X.env) :: starEach r X.env ∧ (backTo pos (starEach r X.env)).any (·.1) = false) :
    PE X (.Call (.Name x p) es [] pos) (tI G W fun E S => (evAll ms E S).bind fun vs S1 => (R.of (argsOf vs) S1).bind fun ws S1 => F ws S1) := by
  have fin : ∀ {pins : List (Addr × Obj)} {σ : L2.St} {H : Hp} {s : Shared} {Q : VK} {us : List Value} {vs : List V} {M : Addr → Prop} {ρ : List Addr} {S S1 : Store} {H1 : Hp} {E : Env} {xs : List Val}, Sim G M H ρ S → Inv X pins σ H1 s → Vals vs us → Step ρ S H S1 H1 → Sim G M H1 ρ S1 → ARs G H1 (Av M ρ S1) ρ vs xs →
      Got G W M σ ρ S H ((R.of (argsOf xs) S1).bind fun ws S1 => F ws S1) (fun x S' => ∀ v H', Step ρ S H S' H' → Out G M H ρ S' v H' x → Q v H') → wpAny (model X.prog X.w) X.A (call (.ref f) us) (EP X pins σ Q) X.xe s := by
    intro pins σ H s Q us vs M ρ S S1 H1 E xs hS I r t1 s1 rs g
    obtain ⟨ws, ew, g⟩ := of_some (Got.bind g)
    refine run_g hF hr hg hb tk I r ⟨M, ρ, S1, ws, s1, ARs.args rs ew, ?_⟩
    exact got_slots (fun _ _ _ h => h) ((g.later t1).imp fun x S2 q v H2 t2 o2 => q v H2 (t1.trans t2) (o2.later t1 hS))
  refine ⟨fun pins s σ H Q I ⟨M, ρ, E, S, hE, hS, g⟩ => ?_⟩
  refine wpAny_Call_Name_kw (ld_glob I hgl hm ?_ hdb)
  have run := fun (pos : Pos) => h.run pos pins s σ H (fun vs H1 => ∃ xs S1, Step ρ S H S1 H1 ∧ Sim G M H1 ρ S1 ∧ ARs G H1 (Av M ρ S1) ρ vs xs ∧ Got G W M σ ρ S H ((R.of (argsOf xs) S1).bind fun ws S1 => F ws S1) (fun x S' => ∀ v H', Step ρ S H S' H' → Out G M H ρ S' v H' x → Q v H')) I
    ⟨M, ρ, E, S, hE, hS, (Got.bind g).imp fun xs S1 g vs H1 t1 s1 r => ⟨xs, S1, t1, s1, r, g⟩⟩
  cases es with
  | nil =>
    have z := hn rfl
    subst z
    refine PySem.W.callWith_K0 I.kIn hk ?_
    exact fin (E := E) (xs := []) hS I .nil Step.refl hS .nil (Got.bind g)
  | cons a r =>
    obtain ⟨he1, he2⟩ := he a r rfl
    refine PySem.W.callWith_K (h₀ := X.base) I.ok.mod.kin hk (thn (run pos) fun us s1 ⟨vs, H1, I1, r1, xs, S1, t1, sm, ar, g⟩ => ⟨I1.kIn, ?_⟩) he1 he2
    exact fin (E := E) hS I1 r1 t1 sm ar g
end

/-! ### slots -/
theorem wipe_set (σ : L2.St) (i : Nat) (x : Option V) : ∀ vs : List Nat, wipe (σ.set i x) vs = if i ∈ vs then wipe σ vs else (wipe σ vs).set i x
  | [] => by simp [wipe]
  | v :: vs => by
    show (wipe (σ.set i x) vs).set v none = if i ∈ v :: vs then (wipe σ vs).set v none else ((wipe σ vs).set v none).set i x
    rw [wipe_set σ i x vs]
    by_cases h : i ∈ vs
    · rw [if_pos h, if_pos (List.mem_cons_of_mem _ h)]
    · rw [if_neg h]
      by_cases e : i = v
      · subst e
        rw [if_pos List.mem_cons_self, List.set_set]
      · rw [if_neg (by simp only [List.mem_cons, not_or]; exact ⟨e, h⟩), List.set_comm _ _ e]
theorem wipe_none (σ : L2.St) (v : Nat) : ∀ {vs : List Nat}, v ∈ vs → (wipe σ vs).set v none = wipe σ vs
  | w :: vs, h => by
    show ((wipe σ vs).set w none).set v none = (wipe σ vs).set w none
    by_cases e : v = w
    · subst e; rw [List.set_set]
    · rw [List.set_comm _ _ (Ne.symm e), wipe_none σ v ((List.mem_cons.mp h).resolve_left e)]
theorem wipe_sub (σ : L2.St) (vs : List Nat) : ∀ us : List Nat, (∀ v ∈ us, v ∈ vs) → wipe (wipe σ us) vs = wipe σ vs
  | [], _ => rfl
  | u :: us, h => by
    show wipe ((wipe σ us).set u none) vs = wipe σ vs
    rw [wipe_set, if_pos (h u List.mem_cons_self)]
    exact wipe_sub σ vs us fun v hv => h v (List.mem_cons_of_mem _ hv)
section
variable {G : Gb} {H H' : Hp} {N N' : Addr → Prop} {ρ : List Addr} {σ : L2.St} {E : Env}
theorem EnvR.mono (h : ∀ a o, H a = some o → ¬ N a → H' a = some o) (n : ∀ a, N' a → N a ∨ H a = none) (r : EnvR G H N ρ σ E) : EnvR G H' N' ρ σ E :=
  ⟨r.len, fun i x e => let ⟨v, h1, h2⟩ := r.val i x e; ⟨v, h1, h2.mono h n⟩⟩
theorem EnvR.set {v : V} {x : Val} {i : Nat} (r : EnvR G H N ρ σ E) (h : VR G H N ρ v x) : EnvR G H N ρ (σ.set i (some v)) (E.set i (some x)) := by
  refine ⟨by rw [List.length_set, List.length_set]; exact r.len, fun j y e => ?_⟩
  by_cases z : i = j
  · subst z
    have hi : i < E.length := by
      have q := (List.getElem?_eq_some_iff.mp e).1
      rwa [List.length_set] at q
    rw [List.getElem?_set_self hi] at e
    cases e
    exact ⟨v, List.getElem?_set_self (by rw [r.len]; exact hi), h⟩
  · rw [List.getElem?_set_ne z] at e ⊢
    exact r.val j y e
theorem EnvR.wipe (r : EnvR G H N ρ σ E) : ∀ vs : List Nat, EnvR G H N ρ (L2.wipe σ vs) (wipeE E vs)
  | [] => r
  | v :: vs => by
    have q := r.wipe vs
    refine ⟨by show ((L2.wipe σ vs).set v none).length = ((wipeE E vs).set v none).length; rw [List.length_set, List.length_set]; exact q.len, fun j y e => ?_⟩
    show ∃ u, ((L2.wipe σ vs).set v none)[j]? = some (some u) ∧ _
    have e : ((wipeE E vs).set v none)[j]? = some (some y) := e
    by_cases z : v = j
    · subst z
      by_cases hi : v < (wipeE E vs).length
      · rw [List.getElem?_set_self hi] at e; cases e
      · rw [List.getElem?_eq_none (by rw [List.length_set]; omega)] at e; cases e
    · rw [List.getElem?_set_ne z] at e ⊢
      exact q.val j y e
end

/-! ### targets -/
def tTg (G : Gb) (t : Tg) : TG := fun v σ H Q => ∃ N ρ x E E', DR G H N v x ∧ EnvR G H N ρ σ E ∧ asgT t x E = some E' ∧ ∀ σ', EnvR G H N ρ σ' E' → (∀ vs, (∀ i ∈ t.slots, i ∈ vs) → wipe σ' vs = wipe σ vs) → Q σ' H
def tTgs (G : Gb) (ts : List Tg) : TGs := fun vs σ H Q => ∃ N ρ xs E E', DRs G H N vs xs ∧ EnvR G H N ρ σ E ∧ asgTs ts xs E = some E' ∧ ∀ σ', EnvR G H N ρ σ' E' → (∀ us, (∀ i ∈ slotsL ts, i ∈ us) → wipe σ' us = wipe σ us) → Q σ' H
/-- a name that may be stored -/
def sto (sc : Scope) (x : Str) : Bool := sc.names.lookup x == some .local || sc.names.lookup x == some .cell
mutual
def chkT (N : List Str) (sc : Scope) : Tg → Expr → Bool
  | .nm i, .Name x _ => N[i]? == some x && sto sc x
  | .seq ts, .Tuple es _ _ => chkTs N sc ts es
  | _, _ => false
def chkTs (N : List Str) (sc : Scope) : List Tg → List Expr → Bool
  | [], [] => true
  | t :: ts, e :: es => chkT N sc t e && chkTs N sc ts es
  | _, _ => false
end
/-- the names that the context lets be stored -/
def Stores (X : Cx) (sc : Scope) : Prop := ∀ x, sto sc x = true → Loc X.env.scope x ∧ (X.fn x = true ∨ X.env.scope.names.lookup x = some .local)
section
variable {G : Gb} {X : Cx} {sc : Scope}
theorem PG_imp {e : Expr} {t t' : TG} (h : PG X e t) (f : ∀ v σ H Q, t' v σ H Q → t v σ H Q) : PG X e t' := ⟨fun p s σ H v u Q I r q => h.run p s σ H v u Q I r (f v σ H Q q)⟩
theorem PGs_imp {e : List Expr} {t t' : TGs} (h : PGs X e t) (f : ∀ v σ H Q, t' v σ H Q → t v σ H Q) : PGs X e t' := ⟨fun p s σ H v u Q I r q => h.run p s σ H v u Q I r (f v σ H Q q)⟩
theorem PG_or {e : Expr} {t t' : TG} (h : PG X e t) (h' : PG X e t') : PG X e (fun v σ H Q => t v σ H Q ∨ t' v σ H Q) := ⟨fun p s σ H v u Q I r q => q.elim (h.run p s σ H v u Q I r) (h'.run p s σ H v u Q I r)⟩
theorem each_len (N : List Str) (env : PySem.Env) : ∀ (ts : List Tg) (es : List Expr), chkTs N sc ts es = true → (assignEach es env).length = ts.length ∧ (assignEach es env).findIdx? (·.1) = none
  | [], [], _ => ⟨rfl, rfl⟩
  | t :: ts, e :: es, h => by
    have h := Bool.and_eq_true_iff.mp (show (chkT N sc t e && chkTs N sc ts es) = true from h)
    obtain ⟨l1, l2⟩ := each_len N env ts es h.2
    have one : assignEach (e :: es) env = (false, assign e env) :: assignEach es env := by
      cases e <;> first | rfl | (cases t <;> exact absurd (show false = true from h.1) (by decide))
    rw [one]
    exact ⟨by rw [List.length_cons, l1]; rfl, by rw [List.findIdx?_cons, l2]; rfl⟩
mutual
theorem pg_tg (hG : G.K = X.K) (hc : X.calm = true) (hN : X.N.Nodup) (hst : Stores X sc) : ∀ (t : Tg) (e : Expr), chkT X.N sc t e = true → PG X e (tTg G t)
  | .nm i, .Name x p, h => by
    have h := Bool.and_eq_true_iff.mp (show (X.N[i]? == some x && sto sc x) = true from h)
    obtain ⟨h1, h2⟩ := hst x h.2
    refine PG_imp (pg_name hN (beq_iff_eq.mp h.1) h1 h2) fun v σ H Q ⟨N, ρ, d, E, E', r, hE, e1, q⟩ => ?_
    obtain ⟨z, rfl⟩ := of_if (show (if i < E.length then some (E.set i (some (.d d))) else none) = some E' from e1)
    refine q _ (hE.set (.d r)) fun vs hv => ?_
    rw [wipe_set, if_pos (hv i (List.mem_singleton.mpr rfl))]
  | .seq ts, .Tuple es kk p, h => by
    have h : chkTs X.N sc ts es = true := h
    obtain ⟨l1, l2⟩ := each_len X.N X.env ts es h
    have hs := pg_tgs hG hc hN hst ts es h
    refine PG_imp (PG_or (pg_tup hc hs l1 l2) (pg_lst hc hs l1 l2)) fun v σ H Q ⟨N, ρ, d, E, E', r, hE, e1, q⟩ => ?_
    have len : ∀ {ts : List Tg} {xs : List D} {E E' : Env}, asgTs ts xs E = some E' → xs.length = ts.length := by
      intro ts
      induction ts with
      | nil => intro xs E E' h; cases xs with
        | nil => rfl
        | cons x xs => exact absurd h (by unfold asgTs; simp)
      | cons t ts ih => intro xs E E' h; cases xs with
        | nil => exact absurd h (by unfold asgTs; simp)
        | cons x xs =>
          obtain ⟨E1, _, h2⟩ := Option.bind_eq_some_iff.mp (show (asgT t x E).bind (fun E' => asgTs ts xs E') = some E' from h)
          rw [List.length_cons, List.length_cons, ih h2]
    cases d with
    | tup xs =>
      have e1 : asgTs ts xs E = some E' := e1
      obtain ⟨a, vs, rfl, h1, h2, _⟩ := r.tupR
      exact .inl ⟨a, vs, rfl, hG ▸ h1, by rw [h2.len]; exact len e1, N, ρ, xs, E, E', h2, hE, e1, q⟩
    | lst xs =>
      have e1 : asgTs ts xs E = some E' := e1
      obtain ⟨a, vs, rfl, h1, _, h2⟩ := r.listR
      exact .inr ⟨a, vs, rfl, .inl h1, by rw [h2.len]; exact len e1, N, ρ, xs, E, E', h2, hE, e1, q⟩
    | _ => exact absurd e1 (by unfold asgT; simp)
theorem pg_tgs (hG : G.K = X.K) (hc : X.calm = true) (hN : X.N.Nodup) (hst : Stores X sc) : ∀ (ts : List Tg) (es : List Expr), chkTs X.N sc ts es = true → PGs X es (tTgs G ts)
  | [], [], _ => PGs_imp pgs_nil fun vs σ H Q ⟨N, ρ, xs, E, E', r, hE, e1, q⟩ => by
    cases xs with
    | nil => cases e1; cases r; exact ⟨rfl, q σ hE fun _ _ => rfl⟩
    | cons x xs => exact absurd e1 (by unfold asgTs; simp)
  | t :: ts, e :: es, h => by
    have h := Bool.and_eq_true_iff.mp (show (chkT X.N sc t e && chkTs X.N sc ts es) = true from h)
    have one : (assignEach (e :: es) X.env).map (·.2) = assign e X.env :: (assignEach es X.env).map (·.2) := by
      cases e <;> first | rfl | (cases t <;> exact absurd (show false = true from h.1) (by decide))
    refine PGs_imp (pgs_cons (pg_tg hG hc hN hst t e h.1) (pg_tgs hG hc hN hst ts es h.2) one) fun vs σ H Q ⟨N, ρ, xs, E, E', r, hE, e1, q⟩ => ?_
    cases xs with
    | nil => exact absurd e1 (by unfold asgTs; simp)
    | cons x xs =>
      cases r with
      | cons r1 r2 =>
        obtain ⟨E1, h1, h2⟩ := Option.bind_eq_some_iff.mp (show (asgT t x E).bind (fun E' => asgTs ts xs E') = some E' from e1)
        refine ⟨_, _, rfl, N, ρ, x, E, E1, r1, hE, h1, fun σ1 hE1 w1 => ⟨N, ρ, xs, E1, E', r2, hE1, h2, fun σ2 hE2 w2 => q σ2 hE2 fun us hu => ?_⟩⟩
        rw [w2 us fun i hi => hu i (List.mem_append_right _ hi), w1 us fun i hi => hu i (List.mem_append_left _ hi)]
end
end
end Mi

set_option maxHeartbeats 4000000
/-! comprehensions -/
namespace Mi
open PySem PySem.Spec PyProof.Rows L2

abbrev WN : WX := fun _ _ _ _ => False
section
variable {G : Gb} {W : WX} {M : Addr → Prop} {σ : L2.St} {ρ : List Addr} {S S1 S2 : Store} {H H' : Hp} {N : Addr → Prop} {D : Addr}
theorem got_calm {α β : Type} {r : R α} {f : α → Store → R β} {P : β → Store → Prop} (h : Got G W M σ ρ S H (r.calm.bind f) P) : ∃ y S2, r = .ok y S2 ∧ Got G W M σ ρ S H (f y S2) P := by
  cases r with
  | ok y S2 => exact ⟨y, S2, rfl, h⟩
  | ex c a S2 => exact h.elim
  | no => exact h.elim
theorem bind_ok {α β : Type} {r : R α} {f : α → Store → R β} {y : β} {S2 : Store} (h : r.bind f = .ok y S2) : ∃ x S1, r = .ok x S1 ∧ f x S1 = .ok y S2 := by
  cases r with
  | ok x S1 => exact ⟨x, S1, rfl, h⟩
  | ex c a S1 => cases h
  | no => cases h
theorem of_ok {α : Type} {o : Option α} {y : α} {S S2 : Store} (h : R.of o S = .ok y S2) : o = some y ∧ S2 = S := by
  cases o with
  | none => cases h
  | some a => cases h; exact ⟨rfl, rfl⟩
/-- an object that is met nowhere is written -/
theorem Sim.upd {o : HO} (s : Sim G M H ρ S) (n : M D) : Sim G M (upd H D o) ρ S := by
  have keep : ∀ a o', H a = some o' → ¬ Av M ρ S a → L2.upd H D o a = some o' := fun a o' e z => by rw [upd_ne (fun q => z (by rw [q]; exact .inr n))]; exact e
  have there : ∀ a, H a ≠ none → L2.upd H D o a ≠ none := fun a z => by
    by_cases q : a = D
    · subst q; rw [upd_same]; simp
    · rw [upd_ne q]; exact z
  refine ⟨s.len, s.uni, fun l a c e1 e2 => ?_, fun l a e => there a (s.all l a e), fun a e => there a (s.apart a e), s.ap⟩
  have ne : a ≠ D := fun q => s.ap l a e1 (q ▸ n)
  have r := s.cell l a c e1 e2
  cases c with
  | lst xs => obtain ⟨vs, h1, h2⟩ := r; exact ⟨vs, by rw [upd_ne ne]; exact h1, DRs.mono keep (fun _ z => .inl z) _ h2⟩
  | dct ks vs => obtain ⟨us, h1, z, h2⟩ := r; exact ⟨us, by rw [upd_ne ne]; exact h1, z, DRs.mono keep (fun _ z => .inl z) _ h2⟩
  | gone => trivial
/-- how things stand within a comprehension -/
structure InC (G : Gb) (M : Addr → Prop) (ρ : List Addr) (σ : L2.St) (E : Env) (vs : List Nat) (D : Addr) (S1 : Store) (H1 : Hp) (Sx : Store) (H : Hp) : Prop where
  env : EnvR G H (Av (And1 M D) ρ Sx) ρ (L2.wipe σ vs) (wipeE E vs)
  sim : Sim G (And1 M D) H ρ Sx
  st : Step ρ S1 H1 Sx H
  new : H1 D = none
  no : ∀ l : Nat, ρ[l]? ≠ some D
theorem InC.start {E : Env} {vs : List Nat} (hE : EnvR G H (Av M ρ S) ρ σ E) (s : Sim G M H ρ S) (h : H D = none) {o : HO} : InC G M ρ σ E vs D S H S (upd H D o) := by
  have no : ∀ l : Nat, ρ[l]? ≠ some D := fun l e => s.all l D e h
  have sm : Same H (upd H D o) := same_upd h
  have n : ∀ a, Av (And1 M D) ρ S a → Av M ρ S a ∨ H a = none := fun a z => (av_and.mp z).imp id fun e => by rw [e]; exact h
  exact ⟨(hE.mono (fun a o e _ => sm a o e) n).wipe vs, s.mono sm h (by rw [upd_same]; simp), .same sm, h, no⟩
end
section
variable {G : Gb} {W : WX} {M : Addr → Prop} {σ : L2.St} {ρ : List Addr} {S S1 S2 Sx : Store} {H H' H1 : Hp} {D : Addr} {E : Env} {vs : List Nat}
theorem InC.it {J : It} {xs : List Mi.D} (c : InC G M ρ σ E vs D S1 H1 Sx H) (s1 : Sim G M H1 ρ S1) (it : ItOk G M ρ S1 H1 J xs) (i : Nat) :
    (xs.length = i → J.stop i H) ∧ ∀ x, xs[i]? = some x → J.go i H ∧ ∀ v H3, J.yld i H v H3 → Same H H3 ∧ DR G H3 (Av (And1 M D) ρ Sx) v x :=
  it.2 i H _ (fun a o e n => c.st.keep' a o e n) fun a z => ⟨(av_and.mp z).elim (fun z => .inl (c.st.av a z)) fun e => .inr (e ▸ c.new), c.sim.fit a z⟩
theorem InC.same (c : InC G M ρ σ E vs D S1 H1 Sx H) (h : Same H H') : InC G M ρ σ E vs D S1 H1 Sx H' :=
  ⟨c.env.mono (fun a o e _ => h a o e) fun _ z => .inl z, c.sim.same h, c.st.trans (.same h), c.new, c.no⟩
theorem InC.step (c : InC G M ρ σ E vs D S1 H1 Sx H) (t : Step ρ Sx H S2 H') (s : Sim G (And1 M D) H' ρ S2) : InC G M ρ σ E vs D S1 H1 S2 H' :=
  ⟨c.env.step t, s, c.st.trans t, c.new, c.no⟩
theorem InC.upd (c : InC G M ρ σ E vs D S1 H1 Sx H) {o : HO} : InC G M ρ σ E vs D S1 H1 Sx (upd H D o) := by
  have n : Av (And1 M D) ρ Sx D := .inr (.inr rfl)
  refine ⟨c.env.mono (fun a o' e z => by rw [upd_ne (fun q => z (by rw [q]; exact n))]; exact e) fun _ z => .inl z, c.sim.upd (.inr rfl), ⟨fun a o' e z => ?_, c.st.live⟩, c.new, c.no⟩
  have ne : a ≠ D := fun q => by rw [q, c.new] at e; cases e
  rw [upd_ne ne]; exact c.st.keep a o' e z
theorem InC.at (c : InC G M ρ σ E vs D S1 H1 Sx H) (t : Step ρ Sx H S2 H') {o : HO} (e : H D = some o) : H' D = some o := t.keep D o e fun ⟨l, z⟩ => c.no l z.1
/-- the end: the new object is one's own -/
theorem InC.out (c : InC G M ρ σ E vs D S1 H1 S2 H) (s1 : Sim G M H1 ρ S1) {x : Cell} (l : x.lives) (r : CellR G H (Av (And1 M D) ρ S2) D x) : Out G M H1 ρ S2 (.ref D) H (.own x) :=
  ⟨D, rfl, c.new, fun z => s1.fit D (c.st.av D z) c.new, c.no, l, c.sim, r⟩
end

section
variable {G : Gb} {W : WX} {mi me mk mv : Sm} {mfs : List Sm} {tg : Tg} {vs : List Nat}
/-- one turn's target and tests, whatever comes behind -/
theorem turn_one {M : Addr → Prop} {σ : L2.St} {ρ : List Addr} {S1 Sx Sb : Store} {H1 H3 : Hp} {D : Addr} {E E' : Env} {x : Mi.D} {b : Bool} {v : V} {K : L2.St → Hp → Prop} {P : Hp → Prop}
    (hsl : ∀ i ∈ tg.slots, i ∈ vs) (c : InC G M ρ σ E vs D S1 H1 Sx H3) (dr : DR G H3 (Av (And1 M D) ρ Sx) v x) (e1 : asgT tg x (wipeE E vs) = some E') (e2 : tsAll mfs E' Sx = .ok b Sb)
    (h : ∀ σ2 H4, EnvR G H4 (Av (And1 M D) ρ Sb) ρ σ2 E' → Step ρ Sx H3 Sb H4 → InC G M ρ σ E vs D S1 H1 Sb H4 → (if b = true then K σ2 H4 else P H4)) :
    tTg G tg v (wipe σ vs) H3 fun σ2 H2 => wipe σ2 vs = wipe σ vs ∧ tT G WN (tsAll mfs) σ2 H2 fun b H3 => if b = true then K σ2 H3 else P H3 := by
  refine ⟨_, ρ, x, _, E', dr, c.env, e1, fun σ' hE' hw => ⟨?_, And1 M D, ρ, E', Sx, hE', c.sim, ?_⟩⟩
  · rw [hw vs hsl]; exact wipe_sub σ vs vs fun _ z => z
  · rw [e2]
    exact fun H4 t4 s4 => h σ' H4 (hE'.step t4) t4 (c.step t4 s4)
theorem imp_lc (hsl : ∀ i ∈ tg.slots, i ∈ vs) (σ : L2.St) (H : Hp) (Q : VK) : tI G W (lcM mi me mfs tg vs) σ H Q → tLc (tIt G W mi.it) (tTg G tg) (tT G WN (tsAll mfs)) (tI G WN me.ev) vs σ H Q := by
  intro ⟨M, ρ, E, S, hE, hS, g⟩
  refine ⟨M, ρ, E, S, hE, hS, (Got.bind g).imp fun xs S1 g J H1 t1 s1 it D hD => ?_⟩
  obtain ⟨ys, S2, er, g⟩ := got_calm g
  have hE1 := hE.step t1
  refine ⟨fun i m H' => m = xs.length - i ∧ i ≤ xs.length ∧ ∃ acc Sx va, turns tg vs (tsAll mfs) (strict me) E (xs.drop i) acc Sx = .ok ys S2 ∧ acc.length ≤ i ∧ H' D = some (.lst va) ∧ DRs G H' (Av (And1 M D) ρ Sx) va acc ∧ InC G M ρ σ E vs D S1 H1 Sx H',
    ⟨xs.length, rfl, Nat.zero_le _, [], S1, [], er, Nat.le_refl _, upd_same, .nil, .start hE1 s1 hD⟩, ?_⟩
  rintro i m H' ⟨rfl, hi, acc, Sx, va, et, hl, eD, ra, c⟩
  have hit := c.it s1 it i
  by_cases hlt : i < xs.length
  · right
    obtain ⟨h1, h2⟩ := hit.2 xs[i] (List.getElem?_eq_getElem hlt)
    refine ⟨h1, fun H' => i + 1 ≤ xs.length ∧ ∃ acc Sx va, turns tg vs (tsAll mfs) (strict me) E (xs.drop (i + 1)) acc Sx = .ok ys S2 ∧ acc.length ≤ i + 1 ∧ H' D = some (.lst va) ∧ DRs G H' (Av (And1 M D) ρ Sx) va acc ∧ InC G M ρ σ E vs D S1 H1 Sx H',
      fun H'' ⟨k1, k2⟩ => ⟨xs.length - (i + 1), by omega, rfl, k1, k2⟩, fun v H3 y => ?_⟩
    obtain ⟨sm, dr⟩ := h2 v H3 y
    have c3 := c.same sm
    have eD3 := sm _ _ eD
    have ra3 := ra.same sm
    rw [List.drop_eq_getElem_cons hlt] at et
    cases e1 : asgT tg xs[i] (wipeE E vs) with
    | none => unfold turns at et; rw [e1] at et; cases et
    | some E' =>
      unfold turns at et
      rw [e1] at et
      obtain ⟨b, Sb, e2, et⟩ := bind_ok et
      refine turn_one hsl c3 dr e1 e2 fun σ2 H4 hE4 t4 c4 => ?_
      have eD4 := c3.at t4 eD3
      have ra4 := ra3.step t4
      cases b with
      | false =>
        rw [if_neg Bool.false_ne_true] at et ⊢
        exact ⟨hlt, acc, Sb, va, et, by omega, eD4, ra4, c4⟩
      | true =>
        rw [if_pos rfl] at et ⊢
        obtain ⟨y, Sy, e3, et⟩ := bind_ok et
        obtain ⟨w, Sw, e4, e5⟩ := bind_ok (show (me.ev E' Sb).bind (fun v S1 => R.of v.dat S1) = .ok y Sy from e3)
        obtain ⟨e6, rfl⟩ := of_ok e5
        refine ⟨And1 M D, ρ, E', Sb, hE4, c4.sim, ?_⟩
        rw [e4]
        intro u H5 t5 o5
        have c5 := c4.step t5 o5.sim
        have eD5 := c4.at t5 eD4
        have ra5 := ra4.step t5
        have du := o5.ar.dat e6
        have n : Av (And1 M D) ρ Sy D := .inr (.inr rfl)
        refine ⟨va, eD5, by rw [ra.len]; exact Nat.lt_of_lt_of_le (Nat.lt_of_le_of_lt hl hlt) it.1, hlt, acc ++ [y], Sy, va ++ [u], et, by rw [List.length_append]; exact Nat.succ_le_succ hl, upd_same, ?_, c5.upd⟩
        exact DRs.mono (fun a o' e z => by rw [upd_ne (fun q => z (by rw [q]; exact n))]; exact e) (fun _ z => .inl z) _ (ra5.append (.cons du .nil))
  · left
    have ei : i = xs.length := by omega
    subst ei
    rw [List.drop_length] at et
    unfold turns at et
    cases et
    exact ⟨hit.1 rfl, g _ H' (t1.trans c.st) ((c.out s1 (x := .lst ys) trivial ⟨va, eD, ra⟩).later t1 hS)⟩
theorem ev_lc {X : Cx} {elt tgt iter : Expr} {ifs : List Expr} {scope : Scope} {own : List (Str × Nat)} {pos : Pos} (hc : X.calm = true) (hN : X.N.Nodup) (hi : PI X tgt iter (tIt G W mi.it)) (ok : BlkOk X.N X.env.scope scope own) (hv : own.map (·.2) = vs) (hsl : ∀ i ∈ tg.slots, i ∈ vs)
    (hg : ∀ (s : Shared) (H : Hp) (C : Addr) (cl : List (Str × Addr)) (fp : List Addr), PG (X.blk s H scope (compEnvC scope cl C X.env) fp) tgt (tTg G tg))
    (ht : ∀ (s : Shared) (H : Hp) (C : Addr) (cl : List (Str × Addr)) (fp : List Addr), PTs (X.blk s H scope (compEnvC scope cl C X.env) fp) ifs (tT G WN (tsAll mfs)))
    (he : ∀ (s : Shared) (H : Hp) (C : Addr) (cl : List (Str × Addr)) (fp : List Addr), PE (X.blk s H scope (compEnvC scope cl C X.env) fp) elt (tI G WN me.ev)) (hs : ∀ x, foldedSetIterable iter X.env x = pure x) :
    PE X (.ListComp elt [⟨tgt, iter, ifs, 0⟩] scope pos) (tI G W (lcM mi me mfs tg vs)) := by
  subst hv
  exact PE_imp (pe_lc hc hN hi ok hg ht he hs) (imp_lc hsl)

/-! ### dicts -/
theorem put_rel {H : Hp} {N : Addr → Prop} {ks : List Key} {us : List V} {xs : List Mi.D} {k : Key} {v : V} {x : Mi.D} (l : ks.length = us.length) (r : DRs G H N us xs) (h : DR G H N v x) :
    ∃ us', putK (ks.zip us) k v = (putD k x ks xs).1.zip us' ∧ (putD k x ks xs).1.length = us'.length ∧ DRs G H N us' (putD k x ks xs).2 ∧ (putD k x ks xs).1.length ≤ ks.length + 1 := by
  have an : ∀ {ks : List Key} {us : List V}, ks.length = us.length → ((ks.zip us).any fun kv => decide (kv.1 = k)) = ks.any fun q => decide (q = k) := by
    intro ks
    induction ks with
    | nil => intro us _; simp
    | cons a ks ih => intro us l; cases us with
      | nil => simp at l
      | cons u us => rw [List.zip_cons_cons, List.any_cons, List.any_cons, ih (by simpa using l)]
  unfold putD putK
  rw [an l]
  by_cases z : (ks.any fun q => decide (q = k)) = true
  · rw [if_pos z, if_pos z]
    refine ⟨(ks.zip us).map fun p => if p.1 = k then v else p.2, ?_, ?_, ?_, Nat.le_succ _⟩
    · have : ∀ {ks : List Key} {us : List V}, ks.length = us.length → (ks.zip us).map (fun kv => if kv.1 = k then (kv.1, v) else kv) = ks.zip ((ks.zip us).map fun p => if p.1 = k then v else p.2) := by
        intro ks
        induction ks with
        | nil => intro us _; simp
        | cons a ks ih => intro us l; cases us with
          | nil => simp at l
          | cons u us =>
            rw [List.zip_cons_cons, List.map_cons, List.map_cons, List.zip_cons_cons, ih (by simpa using l)]
            by_cases e : a = k
            · rw [if_pos e, if_pos e]
            · rw [if_neg e, if_neg e]
      exact this l
    · show ks.length = _
      rw [List.length_map, List.length_zip]; omega
    · have : ∀ {ks : List Key} {us : List V} {xs : List Mi.D}, ks.length = us.length → DRs G H N us xs → DRs G H N ((ks.zip us).map fun p => if p.1 = k then v else p.2) ((ks.zip xs).map fun p => if p.1 = k then x else p.2) := by
        intro ks
        induction ks with
        | nil => intro us xs _ _; exact .nil
        | cons a ks ih => intro us xs l r; cases r with
          | nil => exact .nil
          | cons h1 r =>
            rw [List.zip_cons_cons, List.zip_cons_cons, List.map_cons, List.map_cons]
            refine .cons ?_ (ih (by simpa using l) r)
            by_cases e : a = k
            · rw [if_pos e, if_pos e]; exact h
            · rw [if_neg e, if_neg e]; exact h1
      exact this l r
  · rw [if_neg z, if_neg z]
    refine ⟨us ++ [v], ?_, ?_, r.append (.cons h .nil), ?_⟩
    · show ks.zip us ++ [(k, v)] = (ks ++ [k]).zip (us ++ [v])
      rw [List.zip_append l]; rfl
    · simp [l]
    · simp
theorem imp_dc (hsl : ∀ i ∈ tg.slots, i ∈ vs) (σ : L2.St) (H : Hp) (Q : VK) : tI G W (dcM mi mk mv mfs tg vs) σ H Q → tDc (tIt G W mi.it) (tTg G tg) (tT G WN (tsAll mfs)) (tI G WN mk.ev) (tI G WN mv.ev) vs σ H Q := by
  intro ⟨M, ρ, E, S, hE, hS, g⟩
  refine ⟨M, ρ, E, S, hE, hS, (Got.bind g).imp fun xs S1 g J H1 t1 s1 it D hD => ?_⟩
  obtain ⟨ys, S2, er, g⟩ := got_calm g
  have hE1 := hE.step t1
  refine ⟨fun i m H' => m = xs.length - i ∧ i ≤ xs.length ∧ ∃ acc Sx va, turnsD tg vs (tsAll mfs) (strict2 mk mv) E (xs.drop i) acc Sx = .ok ys S2 ∧ acc.1.length ≤ i ∧ acc.1.length = va.length ∧ H' D = some (.dK (acc.1.zip va)) ∧ DRs G H' (Av (And1 M D) ρ Sx) va acc.2 ∧ InC G M ρ σ E vs D S1 H1 Sx H',
    ⟨xs.length, rfl, Nat.zero_le _, ([], []), S1, [], er, Nat.le_refl _, rfl, upd_same, .nil, .start hE1 s1 hD⟩, ?_⟩
  rintro i m H' ⟨rfl, hi, acc, Sx, va, et, hl, lz, eD, ra, c⟩
  have hit := c.it s1 it i
  by_cases hlt : i < xs.length
  · right
    obtain ⟨h1, h2⟩ := hit.2 xs[i] (List.getElem?_eq_getElem hlt)
    refine ⟨h1, fun H' => i + 1 ≤ xs.length ∧ ∃ acc Sx va, turnsD tg vs (tsAll mfs) (strict2 mk mv) E (xs.drop (i + 1)) acc Sx = .ok ys S2 ∧ acc.1.length ≤ i + 1 ∧ acc.1.length = va.length ∧ H' D = some (.dK (acc.1.zip va)) ∧ DRs G H' (Av (And1 M D) ρ Sx) va acc.2 ∧ InC G M ρ σ E vs D S1 H1 Sx H',
      fun H'' ⟨k1, k2⟩ => ⟨xs.length - (i + 1), by omega, rfl, k1, k2⟩, fun v H3 y => ?_⟩
    obtain ⟨sm, dr⟩ := h2 v H3 y
    have c3 := c.same sm
    have eD3 := sm _ _ eD
    have ra3 := ra.same sm
    rw [List.drop_eq_getElem_cons hlt] at et
    cases e1 : asgT tg xs[i] (wipeE E vs) with
    | none => unfold turnsD at et; rw [e1] at et; cases et
    | some E' =>
      unfold turnsD at et
      rw [e1] at et
      obtain ⟨b, Sb, e2, et⟩ := bind_ok et
      refine turn_one hsl c3 dr e1 e2 fun σ2 H4 hE4 t4 c4 => ?_
      have eD4 := c3.at t4 eD3
      have ra4 := ra3.step t4
      cases b with
      | false =>
        rw [if_neg Bool.false_ne_true] at et ⊢
        exact ⟨hlt, acc, Sb, va, et, by omega, lz, eD4, ra4, c4⟩
      | true =>
        rw [if_pos rfl] at et ⊢
        obtain ⟨q, Sy, e3, et⟩ := bind_ok et
        obtain ⟨w, Sw, e4, e5⟩ := bind_ok (show (mk.ev E' Sb).bind (fun x S1 => (mv.ev E' S1).bind fun y S2 => R.of ((x.dat.bind asKey).bind fun q => y.dat.map fun z => (q, z)) S2) = .ok q Sy from e3)
        obtain ⟨w2, Sw2, e6, e7⟩ := bind_ok e5
        obtain ⟨e8, rfl⟩ := of_ok e7
        obtain ⟨k, e9, e10⟩ := Option.bind_eq_some_iff.mp e8
        obtain ⟨dk, e11, e12⟩ := Option.bind_eq_some_iff.mp e9
        obtain ⟨dz, e13, rfl⟩ := Option.map_eq_some_iff.mp e10
        refine ⟨And1 M D, ρ, E', Sb, hE4, c4.sim, ?_⟩
        rw [e4]
        intro u H5 t5 o5
        have c5 := c4.step t5 o5.sim
        have eD5 := c4.at t5 eD4
        have ra5 := ra4.step t5
        have du : u = kV k := asKey_some (.dr (o5.ar.dat e11)) e12
        refine ⟨And1 M D, ρ, E', Sw, hE4.step t5, o5.sim, ?_⟩
        rw [e6]
        intro u2 H6 t6 o6
        have c6 := c5.step t6 o6.sim
        have eD6 := c5.at t6 eD5
        have ra6 := ra5.step t6
        have n : Av (And1 M D) ρ Sy D := .inr (.inr rfl)
        obtain ⟨us', p1, p2, p3, p4⟩ := put_rel (k := k) lz ra6 (o6.ar.dat e13)
        refine ⟨acc.1.zip va, k, du, eD6, by rw [List.length_zip]; exact Nat.lt_of_lt_of_le (Nat.lt_of_le_of_lt (Nat.le_trans (Nat.min_le_left _ _) hl) hlt) it.1, hlt, _, Sy, us', et, Nat.le_trans p4 (Nat.succ_le_succ hl), p2, by rw [p1]; exact upd_same, ?_, c6.upd⟩
        exact DRs.mono (fun a o' e z => by rw [upd_ne (fun q => z (by rw [q]; exact n))]; exact e) (fun _ z => .inl z) _ p3
  · left
    have ei : i = xs.length := by omega
    subst ei
    rw [List.drop_length] at et
    unfold turnsD at et
    cases et
    exact ⟨hit.1 rfl, g _ H' (t1.trans c.st) ((c.out s1 (x := .dct ys.1 ys.2) trivial ⟨va, eD, lz, ra⟩).later t1 hS)⟩
theorem ev_dc {X : Cx} {kx vx tgt iter : Expr} {ifs : List Expr} {scope : Scope} {own : List (Str × Nat)} {pos : Pos} (hc : X.calm = true) (hN : X.N.Nodup) (hi : PI X tgt iter (tIt G W mi.it)) (ok : BlkOk X.N X.env.scope scope own) (hv : own.map (·.2) = vs) (hsl : ∀ i ∈ tg.slots, i ∈ vs)
    (hg : ∀ (s : Shared) (H : Hp) (C : Addr) (cl : List (Str × Addr)) (fp : List Addr), PG (X.blk s H scope (compEnvC scope cl C X.env) fp) tgt (tTg G tg))
    (ht : ∀ (s : Shared) (H : Hp) (C : Addr) (cl : List (Str × Addr)) (fp : List Addr), PTs (X.blk s H scope (compEnvC scope cl C X.env) fp) ifs (tT G WN (tsAll mfs)))
    (hk : ∀ (s : Shared) (H : Hp) (C : Addr) (cl : List (Str × Addr)) (fp : List Addr), PE (X.blk s H scope (compEnvC scope cl C X.env) fp) kx (tI G WN mk.ev))
    (he : ∀ (s : Shared) (H : Hp) (C : Addr) (cl : List (Str × Addr)) (fp : List Addr), PE (X.blk s H scope (compEnvC scope cl C X.env) fp) vx (tI G WN mv.ev)) (hs : ∀ x, foldedSetIterable iter X.env x = pure x) :
    PE X (.DictComp kx vx [⟨tgt, iter, ifs, 0⟩] scope pos) (tI G W (dcM mi mk mv mfs tg vs)) := by
  subst hv
  exact PE_imp (pe_dc hc hN hi ok hg ht hk he hs) (imp_dc hsl)
end
end Mi

set_option maxHeartbeats 4000000
/-! statements -/
namespace Mi
open PySem PySem.Spec PyProof.Rows L2

/-- from one moment to a later one, cells may have come -/
structure Far (ρ : List Addr) (S : Store) (H : Hp) (ρ' : List Addr) (S' : Store) (H' : Hp) : Prop where
  keep : ∀ a o, H a = some o → ¬ Live ρ S a → H' a = some o
  live : ∀ a, Live ρ' S' a → Live ρ S a ∨ H a = none
  pre : ∀ (l : Nat) a, ρ[l]? = some a → ρ'[l]? = some a
  new : ∀ (l : Nat) a, ρ.length ≤ l → ρ'[l]? = some a → H a = none
section
variable {G : Gb} {W : WX} {M : Addr → Prop} {σ : L2.St} {ρ ρ1 ρ2 : List Addr} {S S1 S2 : Store} {H H1 H2 : Hp} {E : Env}
theorem Step.far (t : Step ρ S H S1 H1) : Far ρ S H ρ S1 H1 := ⟨t.keep, fun a z => .inl (t.live a z), fun _ _ e => e, fun l a h e => absurd (List.getElem?_eq_some_iff.mp e).1 (by omega)⟩
theorem Far.refl : Far ρ S H ρ S H := Step.refl.far
theorem Far.nothing (a : Far ρ S H ρ1 S1 H1) {b : Addr} (n : ¬ Live ρ S b) (e : H1 b = none) : H b = none := by
  cases q : H b with
  | none => rfl
  | some o => rw [a.keep b o q n] at e; cases e
theorem Far.trans (s1 : ∀ (l : Nat) a, ρ1[l]? = some a → H1 a ≠ none) (a : Far ρ S H ρ1 S1 H1) (b : Far ρ1 S1 H1 ρ2 S2 H2) : Far ρ S H ρ2 S2 H2 := by
  have back : ∀ c, H1 c = none → Live ρ S c ∨ H c = none := fun c e => by
    by_cases n : Live ρ S c
    · exact .inl n
    · exact .inr (a.nothing n e)
  refine ⟨fun c o e n => b.keep c o (a.keep c o e n) fun z => ?_, fun c z => (b.live c z).elim (a.live c) (back c), fun l c e => b.pre l c (a.pre l c e), fun l c hl e => ?_⟩
  · rcases a.live c z with q | q
    · exact n q
    · rw [e] at q; cases q
  · by_cases h : l < ρ1.length
    · have e1 : ρ1[l]? = some ρ1[l] := List.getElem?_eq_getElem h
      have e2 := b.pre l _ e1
      rw [e] at e2
      cases e2
      exact a.new l _ hl e1
    · have n1 := b.new l c (by omega) e
      rcases back c n1 with ⟨i, q, _⟩ | q
      · exact absurd n1 (s1 i c (a.pre i c q))
      · exact q
/-- what a statement's flow asks -/
def Fit3 (G : Gb) (M : Addr → Prop) (H : Hp) (D : Ends) (ρ' : List Addr) (σ' : L2.St) (E' : Env) (S' : Store) (H' : Hp) : Fl → Prop
  | .nx => EnvR G H' (Av M ρ' S') ρ' σ' E' → Sim G M H' ρ' S' → D.nx σ' H'
  | .bk => EnvR G H' (Av M ρ' S') ρ' σ' E' → Sim G M H' ρ' S' → D.bk σ' H'
  | .ct => EnvR G H' (Av M ρ' S') ρ' σ' E' → Sim G M H' ρ' S' → D.ct σ' H'
  | .rt x => ∀ v, Out G M H ρ' S' v H' x → D.rt v H'
def GotS (G : Gb) (W : WX) (M : Addr → Prop) (ρ : List Addr) (S : Store) (H : Hp) (D : Ends) : R (Fl × Env) → Prop
  | .ok p S' => ∀ ρ' σ' H', Far ρ S H ρ' S' H' → Fit3 G M H D ρ' σ' p.2 S' H' p.1
  | .ex c a S' => ∀ ρ' σ' cls d H', Far ρ S H ρ' S' H' → Sim G M H' ρ' S' → ExR G H' (Av M ρ' S') cls d c a → W cls d σ' H'
  | .no => False
def tS (G : Gb) (W : WX) (m : SM) : TS := fun D σ H => ∃ M ρ E S, EnvR G H (Av M ρ S) ρ σ E ∧ Sim G M H ρ S ∧ GotS G W M ρ S H D (m E S)
/-- later on -/
theorem Out.far {S' : Store} {v : V} {H' : Hp} {x : Val} (t : Far ρ S H ρ1 S1 H1) (s : Sim G M H ρ S) {ρ' : List Addr} (pre : ∀ (l : Nat) a, ρ1[l]? = some a → ρ'[l]? = some a) (h : Out G M H1 ρ' S' v H' x) : Out G M H ρ' S' v H' x := by
  cases x with
  | own c =>
    obtain ⟨p, e, hp, np, hn, r⟩ := h
    refine ⟨p, e, ?_, np, hn, r⟩
    cases q : H p with
    | none => rfl
    | some o =>
      by_cases l : Live ρ S p
      · obtain ⟨i, hi, _⟩ := l
        exact absurd (pre i p (t.pre i p hi)) (hn i)
      · rw [t.keep p o q l] at hp; cases hp
  | d x => exact h
  | ref l => exact h
  | err c a => exact h
theorem GotS.later {D : Ends} {r : R (Fl × Env)} (t : Far ρ S H ρ1 S1 H1) (s : Sim G M H ρ S) (s1 : Sim G M H1 ρ1 S1) (h : GotS G W M ρ S H D r) : GotS G W M ρ1 S1 H1 D r := by
  cases r with
  | ok p S' =>
    intro ρ' σ' H' t'
    have q := h ρ' σ' H' (t.trans s1.all t')
    obtain ⟨f, E'⟩ := p
    cases f with
    | nx => exact q
    | bk => exact q
    | ct => exact q
    | rt x => exact fun v o => q v (o.far t s t'.pre)
  | ex c a S' => exact fun ρ' σ' cls d H' t' => h ρ' σ' cls d H' (t.trans s1.all t')
  | no => exact h
/-- an expression ahead of a statement's end: W is asked with the slots as they are -/
theorem GotS.ex {α : Type} {D : Ends} {r : R α} {f : α → Store → R (Fl × Env)} (h : GotS G W M ρ S H D (r.bind f)) : Got G W M σ ρ S H r fun x S' => GotS G W M ρ S H D (f x S') := by
  cases r with
  | ok x S' => exact h
  | ex c a S' => exact fun cls d H' t s e => h ρ σ cls d H' t.far s e
  | no => exact h
theorem GotS.of {α : Type} {D : Ends} {o : Option α} {f : α → Store → R (Fl × Env)} (h : GotS G W M ρ S1 H D ((R.of o S).bind f)) : ∃ a, o = some a ∧ GotS G W M ρ S1 H D (f a S) := by
  cases o with
  | none => exact h.elim
  | some a => exact ⟨a, rfl, h⟩
end

section
variable {G : Gb} {W : WX} {X : Cx} {st : Stmt} {sts : List Stmt} {e : Expr} {pos : Pos}
theorem PS_imp {t t' : TS} (h : PS X st t) (f : ∀ D σ H, t' D σ H → t D σ H) : PS X st t' := ⟨fun p s σ H D I q => h.run p s σ H D I (f D σ H q)⟩
theorem PSs_imp {t t' : TS} (h : PSs X sts t) (f : ∀ D σ H, t' D σ H → t D σ H) : PSs X sts t' := ⟨fun p s σ H D I q => h.run p s σ H D I (f D σ H q)⟩
theorem PS_or {t t' : TS} (h : PS X st t) (h' : PS X st t') : PS X st (fun D σ H => t D σ H ∨ t' D σ H) := ⟨fun p s σ H D I q => q.elim (h.run p s σ H D I) (h'.run p s σ H D I)⟩
theorem b_nil {Fs : Fns} {Gs : List D} {n : Nat} : PSs X [] (tS G W (semB Fs Gs n [])) := PSs_imp pss_nil fun D σ H ⟨M, ρ, E, S, hE, hS, g⟩ => g ρ σ H Far.refl hE hS
theorem b_cons {a b : SM} (h1 : PS X st (tS G W a)) (h2 : PSs X sts (tS G W b)) : PSs X (st :: sts) (tS G W (andThen a b)) := by
  refine PSs_imp (pss_cons h1 h2) fun D σ H ⟨M, ρ, E, S, hE, hS, g⟩ => ⟨M, ρ, E, S, hE, hS, ?_⟩
  unfold andThen at g
  cases q : a E S with
  | no => rw [q] at g; exact g.elim
  | ex c x S' => rw [q] at g; exact g
  | ok p S1 =>
    rw [q, R.bind_ok] at g
    obtain ⟨f, E1⟩ := p
    cases f with
    | nx => exact fun ρ1 σ1 H1 t hE1 s1 => ⟨M, ρ1, E1, S1, hE1, s1, g.later t hS s1⟩
    | bk => exact g
    | ct => exact g
    | rt x => exact g
/-- the ghost step: a cell is data from now on -/
theorem b_frz {i : Nat} {b : SM} (h2 : PSs X sts (tS G W b)) : PSs X sts (tS G W (andThen (fun E S => match getV E i with
    | some (.ref l) => (R.of ((S[l]?).bind Cell.dat) S).bind fun x S => .ok (.nx, E.set i (some (.d x))) (S.set l .gone)
    | _ => .no) b)) := by
  refine PSs_imp h2 fun D σ H ⟨M, ρ, E, S, hE, hS, g⟩ => ?_
  unfold andThen at g
  cases q : getV E i with
  | none => simp only [q] at g; exact g.elim
  | some v =>
    cases v with
    | ref l =>
      simp only [q] at g
      obtain ⟨x, ex, g⟩ : ∃ x, (S[l]?).bind Cell.dat = some x ∧ GotS G W M ρ S H D (b (E.set i (some (.d x))) (S.set l .gone)) := by
        cases z : (S[l]?).bind Cell.dat with
        | none => rw [z] at g; exact g.elim
        | some x => rw [z] at g; exact ⟨x, rfl, g⟩
      obtain ⟨c, e1, e2⟩ := Option.bind_eq_some_iff.mp ex
      have hl : l < S.length := (List.getElem?_eq_some_iff.mp e1).1
      have ei : E[i]? = some (some (.ref l)) := by
        unfold getV at q
        cases z : E[i]? with
        | none => rw [z] at q; cases q
        | some o => rw [z] at q; cases o with
          | none => cases q
          | some y => cases q; rfl
      obtain ⟨v, h1, h2⟩ := hE.val i _ ei
      cases h2 with
      | ref h2 =>
        rename_i a
        -- what lives afterwards lived ahead
        have live : ∀ b, Live ρ (S.set l .gone) b → Live ρ S b := fun b ⟨j, z1, c', z2, z3⟩ => by
          by_cases z : l = j
          · subst z; rw [List.getElem?_set_self hl] at z2; cases z2; exact z3.elim
          · rw [List.getElem?_set_ne z] at z2; exact ⟨j, z1, c', z2, z3⟩
        have lv : c.lives := by cases c with
          | lst _ => trivial
          | dct _ _ => trivial
          | gone => cases e2
        have dead : ¬ Live ρ (S.set l .gone) a := fun ⟨j, z1, c', z2, z3⟩ => by
          by_cases z : l = j
          · subst z; rw [List.getElem?_set_self hl] at z2; cases z2; exact z3.elim
          · rw [List.getElem?_set_ne z] at z2
            exact z (hS.uni l j a ⟨h2, c, e1, lv⟩ ⟨z1, c', z2, z3⟩)
        have less : ∀ b, Av M ρ (S.set l .gone) b → Av M ρ S b := fun b z => z.imp (live b) id
        have s1 : Sim G M H ρ (S.set l .gone) := by
          refine ⟨by rw [List.length_set]; exact hS.len, fun j k b z1 z2 => ?_, fun j b c' z1 z2 => ?_, hS.all, hS.apart, hS.ap⟩
          · have up : ∀ j, At ρ (S.set l .gone) j b → At ρ S j b := fun j ⟨z1, c', z2, z3⟩ => by
              by_cases z : l = j
              · subst z; rw [List.getElem?_set_self hl] at z2; cases z2; exact z3.elim
              · rw [List.getElem?_set_ne z] at z2; exact ⟨z1, c', z2, z3⟩
            exact hS.uni j k b (up j z1) (up k z2)
          · by_cases z : l = j
            · subst z; rw [List.getElem?_set_self hl] at z2; cases z2; trivial
            · rw [List.getElem?_set_ne z] at z2; exact (hS.cell j b c' z1 z2).less less
        have dr : DR G H (Av M ρ (S.set l .gone)) (.ref a) x := by
          have n : ¬ Av M ρ (S.set l .gone) a := fun z => z.elim dead (hS.ap l a h2)
          have r := (hS.cell l a c h2 e1).less less
          cases c with
          | lst xs => cases e2; obtain ⟨vs, r1, r2⟩ := r; exact .lst (.inl r1) n r2
          | dct ks vs => cases e2; obtain ⟨us, r1, z, r2⟩ := r; exact .dct (.inl r1) n z r2
          | gone => cases e2
        have hE1 : EnvR G H (Av M ρ (S.set l .gone)) ρ σ (E.set i (some (.d x))) := by
          have hE0 := hE.mono (fun _ _ e _ => e) fun b z => .inl (less b z)
          refine ⟨by rw [List.length_set]; exact hE0.len, fun j y e => ?_⟩
          by_cases z : i = j
          · subst z
            rw [List.getElem?_set_self (List.getElem?_eq_some_iff.mp ei).1] at e
            cases e
            exact ⟨_, h1, .d dr⟩
          · rw [List.getElem?_set_ne z] at e
            exact hE0.val j y e
        have t : Far ρ S H ρ (S.set l .gone) H := ⟨fun _ _ e _ => e, fun b z => .inl (live b z), fun _ _ e => e, fun j b h e => absurd (List.getElem?_eq_some_iff.mp e).1 (by omega)⟩
        exact ⟨M, ρ, _, _, hE1, s1, g.later t hS s1⟩
    | _ => simp only [q] at g; exact g.elim

/-! ### small statements -/
theorem s_ex {m : Sm} (h : PE X e (tI G W m.ev)) (hs : swapsWith e none pos.line X.env = pure false) : PS X (.Expr e pos) (tS G W fun E S => (m.ev E S).bind fun _ S1 => .ok (.nx, E) S1) :=
  PS_imp (ps_expr h hs) fun D σ H ⟨M, ρ, E, S, hE, hS, g⟩ => ⟨M, ρ, E, S, hE, hS, g.ex.imp fun x S1 g v H1 t o => g ρ σ H1 t.far (hE.step t) o.sim⟩
theorem s_ret {m : Sm} (h : PE X e (tI G W m.ev)) : PS X (.Return (some e) pos) (tS G W fun E S => (m.ev E S).bind fun v S1 => .ok (.rt v, E) S1) :=
  PS_imp (ps_ret h) fun D σ H ⟨M, ρ, E, S, hE, hS, g⟩ => ⟨M, ρ, E, S, hE, hS, g.ex.imp fun x S1 g v H1 t o => g ρ σ H1 t.far v o⟩
theorem s_retN : PS X (.Return none pos) (tS G W fun E S => .ok (.rt (.d .non), E) S) :=
  PS_imp ps_retN fun D σ H ⟨M, ρ, E, S, hE, hS, g⟩ => g ρ σ H Far.refl .non ⟨hS, .d .non⟩
theorem s_pass : PS X (.Pass pos) (tS G W fun E S => .ok (.nx, E) S) := PS_imp ps_pass fun D σ H ⟨M, ρ, E, S, hE, hS, g⟩ => g ρ σ H Far.refl hE hS
theorem s_brk : PS X (.Break pos) (tS G W fun E S => .ok (.bk, E) S) := PS_imp ps_break fun D σ H ⟨M, ρ, E, S, hE, hS, g⟩ => g ρ σ H Far.refl hE hS
theorem s_cont : PS X (.Continue pos) (tS G W fun E S => .ok (.ct, E) S) := PS_imp ps_continue fun D σ H ⟨M, ρ, E, S, hE, hS, g⟩ => g ρ σ H Far.refl hE hS
theorem s_iff {m : Sm} {x y : List Stmt} {a b : SM} (h : PT X e (tT G W m.ts)) (ha : PSs X x (tS G W a)) (hb : PSs X y (tS G W b)) : PS X (.If e x y pos) (tS G W fun E S => (m.ts E S).bind fun c S1 => if c then a E S1 else b E S1) := by
  refine PS_imp (ps_if h ha hb) fun D σ H ⟨M, ρ, E, S, hE, hS, g⟩ => ⟨M, ρ, E, S, hE, hS, g.ex.imp fun c S1 g H1 t s1 => ?_⟩
  cases c with
  | true => exact ⟨M, ρ, E, S1, hE.step t, s1, GotS.later t.far hS s1 g⟩
  | false => exact ⟨M, ρ, E, S1, hE.step t, s1, GotS.later t.far hS s1 g⟩
/-- x = e, x a name -/
theorem imp_asg {i : Nat} {m : Sm} (D : Ends) (σ : L2.St) (H : Hp) : tS G W (fun E S => (m.ev E S).bind fun v S1 => lift (v.arg.bind fun w => if i < E.length then some (E.set i (some w)) else none) S1) D σ H → tAsg (tI G W m.ev) (gName i) D σ H := by
  intro ⟨M, ρ, E, S, hE, hS, g⟩
  refine ⟨M, ρ, E, S, hE, hS, g.ex.imp fun x S1 g v H1 t o => ?_⟩
  obtain ⟨E', e1, g⟩ := GotS.of g
  obtain ⟨w, e2, e3⟩ := Option.bind_eq_some_iff.mp e1
  obtain ⟨z, rfl⟩ := of_if e3
  exact g ρ _ H1 t.far ((hE.step t).set (o.arg e2)) o.sim
/-- x = e, x a cell from now on -/
theorem imp_asgN {i : Nat} {m : Sm} (D : Ends) (σ : L2.St) (H : Hp) : tS G W (fun E S => (m.ev E S).bind fun v S1 => match v with
    | .own c => if i < E.length then .ok (.nx, E.set i (some (.ref S1.length))) (S1 ++ [c]) else .no
    | _ => .no) D σ H → tAsg (tI G W m.ev) (gName i) D σ H := by
  intro ⟨M, ρ, E, S, hE, hS, g⟩
  refine ⟨M, ρ, E, S, hE, hS, g.ex.imp fun x S1 g v H1 t o => ?_⟩
  cases x with
  | own c =>
    by_cases hi : i < E.length
    · simp only [if_pos hi] at g
      obtain ⟨p, rfl, hp, np, no, lv, s1, r⟩ := o
      have sl : ρ.length = S1.length := s1.len
      have live : ∀ a, Live (ρ ++ [p]) (S1 ++ [c]) a → Live ρ S1 a ∨ a = p := fun a ⟨l, z1, c', z2, z3⟩ => by
        by_cases hl : l < ρ.length
        · rw [List.getElem?_append_left hl] at z1
          rw [List.getElem?_append_left (by omega)] at z2
          exact .inl ⟨l, z1, c', z2, z3⟩
        · rw [List.getElem?_append_right (by omega)] at z1
          have e0 : l - ρ.length = 0 := by
            have := (List.getElem?_eq_some_iff.mp z1).1
            simp at this
            omega
          rw [e0] at z1
          exact .inr (by simpa using z1.symm)
      have lastA : (ρ ++ [p])[S1.length]? = some p := by rw [← sl, List.getElem?_append_right (Nat.le_refl _), Nat.sub_self]; rfl
      have lastC : (S1 ++ [c])[S1.length]? = some c := by rw [List.getElem?_append_right (Nat.le_refl _), Nat.sub_self]; rfl
      have liveP : Live (ρ ++ [p]) (S1 ++ [c]) p := ⟨S1.length, lastA, c, lastC, lv⟩
      have av : ∀ a, Av M (ρ ++ [p]) (S1 ++ [c]) a → Av (And1 M p) ρ S1 a := fun a z => by
        rcases z with z | z
        · exact (live a z).elim .inl fun e => .inr (.inr e)
        · exact .inr (.inl z)
      have s2 : Sim G M H1 (ρ ++ [p]) (S1 ++ [c]) := by
        have get : ∀ (l : Nat) a c', (ρ ++ [p])[l]? = some a → (S1 ++ [c])[l]? = some c' → (ρ[l]? = some a ∧ S1[l]? = some c') ∨ (l = S1.length ∧ a = p ∧ c' = c) := fun l a c' z1 z2 => by
          by_cases hl : l < ρ.length
          · rw [List.getElem?_append_left hl] at z1
            rw [List.getElem?_append_left (by omega)] at z2
            exact .inl ⟨z1, z2⟩
          · have hl2 : l = S1.length := by
              have := (List.getElem?_eq_some_iff.mp z2).1
              simp at this
              omega
            subst hl2
            rw [lastA] at z1
            rw [lastC] at z2
            cases z1; cases z2
            exact .inr ⟨rfl, rfl, rfl⟩
        refine ⟨by simp [sl], fun l k a ⟨z1, c1, z2, z3⟩ ⟨y1, c2, y2, y3⟩ => ?_, fun l a c' z1 z2 => ?_, fun l a e => ?_, fun a z => s1.apart a (.inl z), fun l a e z => ?_⟩
        · rcases get l a c1 z1 z2 with ⟨u1, u2⟩ | ⟨u1, u2, _⟩
          · rcases get k a c2 y1 y2 with ⟨w1, w2⟩ | ⟨w1, w2, _⟩
            · exact s1.uni l k a ⟨u1, c1, u2, z3⟩ ⟨w1, c2, w2, y3⟩
            · exact absurd (w2 ▸ u1) (no l)
          · rcases get k a c2 y1 y2 with ⟨w1, w2⟩ | ⟨w1, w2, _⟩
            · exact absurd (u2 ▸ w1) (no k)
            · rw [u1, w1]
        · rcases get l a c' z1 z2 with ⟨u1, u2⟩ | ⟨u1, u2, u3⟩
          · exact (s1.cell l a c' u1 u2).less av
          · rw [u2, u3]; exact r.less av
        · by_cases hl : l < ρ.length
          · rw [List.getElem?_append_left hl] at e
            exact s1.all l a e
          · rw [List.getElem?_append_right (by omega)] at e
            have e0 : l - ρ.length = 0 := by
              have := (List.getElem?_eq_some_iff.mp e).1
              simp at this
              omega
            rw [e0] at e
            have e : p = a := by simpa using e
            exact s1.apart a (.inr e.symm)
        · by_cases hl : l < ρ.length
          · rw [List.getElem?_append_left hl] at e
            exact s1.ap l a e (.inl z)
          · rw [List.getElem?_append_right (by omega)] at e
            have e0 : l - ρ.length = 0 := by
              have := (List.getElem?_eq_some_iff.mp e).1
              simp at this
              omega
            rw [e0] at e
            have e : p = a := by simpa using e
            exact np (.inr (e ▸ z))
      have far : Far ρ S H (ρ ++ [p]) (S1 ++ [c]) H1 := by
        refine ⟨t.keep, fun a z => (live a z).imp (t.live a) fun e => by rw [e]; exact hp, fun l a e => by rw [List.getElem?_append_left (List.getElem?_eq_some_iff.mp e).1]; exact e, fun l a hl e => ?_⟩
        rw [List.getElem?_append_right hl] at e
        have e0 : l - ρ.length = 0 := by
          have := (List.getElem?_eq_some_iff.mp e).1
          simp at this
          omega
        rw [e0] at e
        have e : p = a := by simpa using e
        rw [← e]; exact hp
      refine g _ _ H1 far ?_ s2
      have hE1 : EnvR G H1 (Av M (ρ ++ [p]) (S1 ++ [c])) (ρ ++ [p]) σ E := by
        refine ⟨hE.len, fun j y e => ?_⟩
        obtain ⟨u, k1, k2⟩ := hE.val j y e
        refine ⟨u, k1, ?_⟩
        cases k2 with
        | d k2 => exact .d (DR.mono t.keep' (fun a z => ((av a z).elim (fun z => .inl (t.av a (.inl z))) fun z => z.elim (fun z => .inl (.inr z)) fun e => .inr (by rw [e]; exact hp))) _ k2)
        | ref k2 => exact .ref (far.pre _ _ k2)
      exact hE1.set (.ref lastA)
    · simp only [if_neg hi] at g; exact g.elim
  | _ => exact g.elim
end
end Mi

set_option maxHeartbeats 4000000
/-! stores, loops -/
namespace Mi
open PySem PySem.Spec PyProof.Rows L2
section
variable {G : Gb} {W : WX} {M : Addr → Prop} {σ : L2.St} {ρ : List Addr} {S S1 : Store} {H H1 : Hp} {E : Env}
/-- a cell is written -/
theorem Sim.write {l : Nat} {a : Addr} {c c' : Cell} {o : HO} (s : Sim G M H ρ S) (h : ρ[l]? = some a) (e : S[l]? = some c) (lv : c.lives) (lv' : c'.lives) (r : CellR G (L2.upd H a o) (Av M ρ S) a c') :
    Sim G M (L2.upd H a o) ρ (S.set l c') ∧ Step ρ S H (S.set l c') (L2.upd H a o) := by
  have hl : l < S.length := (List.getElem?_eq_some_iff.mp e).1
  have la : Live ρ S a := ⟨l, h, c, e, lv⟩
  have at' : ∀ j b, At ρ (S.set l c') j b → At ρ S j b := fun j b ⟨z1, d, z2, z3⟩ => by
    by_cases z : l = j
    · subst z; exact ⟨z1, c, e, lv⟩
    · rw [List.getElem?_set_ne z] at z2; exact ⟨z1, d, z2, z3⟩
  have live : ∀ b, Live ρ (S.set l c') b → Live ρ S b := fun b ⟨j, z⟩ => ⟨j, at' j b z⟩
  have av : ∀ b, Av M ρ (S.set l c') b → Av M ρ S b := fun b z => z.imp (live b) id
  have keep : ∀ b o', H b = some o' → ¬ Live ρ S b → L2.upd H a o b = some o' := fun b o' q n => by rw [upd_ne (fun z => n (by rw [z]; exact la))]; exact q
  have there : ∀ b, H b ≠ none → L2.upd H a o b ≠ none := fun b z => by
    by_cases q : b = a
    · subst q; rw [upd_same]; simp
    · rw [upd_ne q]; exact z
  refine ⟨⟨by rw [List.length_set]; exact s.len, fun j k b z1 z2 => s.uni j k b (at' j b z1) (at' k b z2), fun j b d z1 z2 => ?_, fun j b z => there b (s.all j b z), fun b z => there b (s.apart b z), s.ap⟩, keep, live⟩
  by_cases z : l = j
  · subst z
    rw [List.getElem?_set_self hl] at z2
    cases z2
    rw [h] at z1
    cases z1
    exact r.less av
  · rw [List.getElem?_set_ne z] at z2
    have r2 := s.cell j b d z1 z2
    have k2 : ∀ b o', H b = some o' → ¬ Av M ρ S b → L2.upd H a o b = some o' := fun b o' q n => keep b o' q fun z => n (.inl z)
    have ne : d.lives → b ≠ a := fun dl q => z (s.uni l j a ⟨h, c, e, lv⟩ ⟨q ▸ z1, d, z2, dl⟩)
    cases d with
    | lst xs => obtain ⟨vs, h1, h2⟩ := r2; exact ⟨vs, by rw [upd_ne (ne trivial)]; exact h1, DRs.mono k2 (fun b z => .inl (av b z)) _ h2⟩
    | dct ks vs => obtain ⟨us, h1, l1, h2⟩ := r2; exact ⟨us, by rw [upd_ne (ne trivial)]; exact h1, l1, DRs.mono k2 (fun b z => .inl (av b z)) _ h2⟩
    | gone => trivial
theorem upd_keep {a : Addr} {o : HO} (la : Live ρ S a) : ∀ b o', H b = some o' → ¬ Av M ρ S b → L2.upd H a o b = some o' := fun b o' q n => by
  rw [upd_ne (fun z => n (.inl (by rw [z]; exact la)))]; exact q
theorem AR.refR {v : V} {l : Nat} {N : Addr → Prop} (r : AR G H N ρ v (.ref l)) : ∃ a, v = .ref a ∧ ρ[l]? = some a := by
  cases r with
  | ref h => exact ⟨_, rfl, h⟩
end

section
variable {G : Gb} {W : WX} {X : Cx} {st : Stmt} {sts : List Stmt} {e a b c : Expr} {es : List Expr} {pos p : Pos}
/-! ### o[i] = e -/
def tSetD : TSet := fun o i v H Q => rSetL o i v H Q ∨ ∃ a H4, o = .ref a ∧ DPut H a i v H4 ∧ Q H4
theorem set_D (hu : X.A.units + 1 < cLine) : PSet X tSetD := by
  intro pins s σ H o i v ov iv u Q I ro ri rv h
  rcases h with h | ⟨a, H4, rfl, g, q⟩
  · exact set_list pins s σ H o i v ov iv u Q I ro ri rv h
  · cases ro
    exact d_setItem hu I g ri rv fun s' I' => ⟨H4, I', q⟩
theorem imp_set {me mo mi : Sm} (D : Ends) (σ : L2.St) (H : Hp) : tS G W (fun E S => (me.ev E S).bind fun v S1 => (mo.ev E S1).bind fun l S2 => (mi.ev E S2).bind fun k S3 =>
      (R.of (v.dat.bind fun x => k.dat.bind fun y => setAt l y x S3) S3).bind fun S4 _ => .ok (.nx, E) S4) D σ H → tAsg (tI G W me.ev) (gSub (tI G W mo.ev) (tI G W mi.ev) tSetD) D σ H := by
  intro ⟨M, ρ, E, S, hE, hS, g⟩
  refine ⟨M, ρ, E, S, hE, hS, g.ex.imp fun x S1 g v H1 t1 o1 => ?_⟩
  have g := g.later t1.far hS o1.sim
  refine ⟨M, ρ, E, S1, hE.step t1, o1.sim, g.ex.imp fun l S2 g ov H2 t2 o2 => ?_⟩
  have g := g.later t2.far o1.sim o2.sim
  refine ⟨M, ρ, E, S2, (hE.step t1).step t2, o2.sim, g.ex.imp fun k S3 g iv H3 t3 o3 => ?_⟩
  have g := g.later t3.far o2.sim o3.sim
  obtain ⟨S4, e4, g⟩ := GotS.of g
  obtain ⟨dx, e1, e4⟩ := Option.bind_eq_some_iff.mp e4
  obtain ⟨dk, e2, e4⟩ := Option.bind_eq_some_iff.mp e4
  have s3 := o3.sim
  have dr := ((o1.ar.dat e1).step t2).step t3
  have kr := o3.ar.dat e2
  have hE3 := ((hE.step t1).step t2).step t3
  cases l with
  | ref j =>
    obtain ⟨a, rfl, ha⟩ := (o2.ar.step t3).refR
    unfold setAt at e4
    cases ec : S3[j]? with
    | none => simp only [ec] at e4; cases e4
    | some c =>
      simp only [ec] at e4
      have r := s3.cell j a c ha ec
      cases c with
      | lst xs =>
        cases dk with
        | int i =>
          obtain ⟨m, e5, rfl⟩ := Option.map_eq_some_iff.mp e4
          obtain ⟨vs, h1, h2⟩ := r
          have la : Live ρ S3 a := ⟨j, ha, _, ec, trivial⟩
          obtain ⟨s4, t4⟩ := s3.write (o := .lst (vs.set m v)) ha ec trivial trivial (c' := .lst (xs.set m dx)) ⟨_, upd_same, DRs.mono (upd_keep la) (fun _ z => .inl z) _ (h2.set dr m)⟩
          refine .inl ⟨a, vs, i, m, rfl, (TR.dr kr).int, h1, by rw [h2.len]; exact e5, ?_⟩
          exact g ρ σ _ t4.far (hE3.step t4) s4
        | _ => cases e4
      | dct ks vs =>
        obtain ⟨q, e5, e6⟩ := Option.bind_eq_some_iff.mp e4
        obtain ⟨z, rfl⟩ := of_if e6
        obtain ⟨us, h1, l1, h2⟩ := r
        have la : Live ρ S3 a := ⟨j, ha, _, ec, trivial⟩
        obtain ⟨us', p1, p2, p3, p4⟩ := put_rel (k := q) l1 h2 dr
        obtain ⟨s4, t4⟩ := s3.write (o := .dK (putK (ks.zip us) q v)) ha ec trivial trivial (c' := .dct (putD q dx ks vs).1 (putD q dx ks vs).2) ⟨us', by rw [p1]; exact upd_same, p2, DRs.mono (upd_keep la) (fun _ z => .inl z) _ p3⟩
        refine .inr ⟨a, _, rfl, ?_, g ρ σ _ t4.far (hE3.step t4) s4⟩
        rw [asKey_some (.dr kr) e5]
        exact DPut.k h1 (by rw [List.length_zip]; omega)
      | gone => cases e4
  | _ => cases e4

/-! ### xs.append(e) -/
theorem ev_app {ma : Sm} {ms : List Sm} {apos : Pos} (hG : G.K = X.K) (ha : PE X a (tI G W ma.ev)) (h : PA X (b :: es) (tAs G W (evAll ms))) (hbase : attributeBase a "append" X.env (eval a X.env) = eval a X.env)
    (hfew : ((backTo pos (starEach (b :: es) X.env)).all (fun x => !x.1) && (backToKw pos (keywordEach [] X.env)).all (fun x => x.1.isSome)
      && decide ((b :: es).length + ([] : List Keyword).length + (if ([] : List Keyword).isEmpty then 0 else 1) < 30)) = true) (hline : (apos.endLine == pos.line) = true) (hs : starEach (b :: es) X.env = (false, eval b X.env) :: starEach es X.env) (hpl : (backTo pos (starEach es X.env)).any (·.1) = false) :
    PE X (.Call (.Attribute a "append" apos) (b :: es) [] pos) (tI G W fun E S => (ma.ev E S).bind fun x S1 => (R.of (recv .append x S1) S1).bind fun _ S1 => (evAll ms E S1).bind fun vs S2 => (R.of (strictAll vs) S2).bind fun xs S2 => mtV .append x xs S2) := by
  refine PE_imp (pe_bm PySem.F.plainAttrs_list PySem.F.slot_list_append PySem.F.type_list_append mt_append ha h hbase hfew hline hs hpl) fun σ H Q ⟨M, ρ, E, S, hE, hS, g⟩ => ⟨M, ρ, E, S, hE, hS, (Got.bind g).imp fun x S1 g v H1 t1 o1 => ?_⟩
  obtain ⟨_, er, g⟩ := of_some (Got.bind g)
  cases x with
  | ref l =>
    obtain ⟨a', rfl, hl⟩ := o1.ar.refR
    have s1 := o1.sim
    have er : (match S1[l]? with
      | some (.lst _) => some ()
      | _ => none) = some () := er
    cases ec : S1[l]? with
    | none => rw [ec] at er; cases er
    | some c =>
      cases c with
      | lst zs =>
        obtain ⟨vs0, k1, _⟩ := s1.cell l a' _ hl ec
        refine ⟨.inl ⟨rfl, vs0, .inl (.inl k1)⟩, M, ρ, E, S1, hE.step t1, s1, ((Got.bind g).later t1).imp fun ws S2 g vs H2 t2 s2 r => ?_⟩
        obtain ⟨xs, e1, g⟩ := of_some (Got.bind g)
        have rs := ARs.strict r e1
        unfold mtV at g
        cases xs with
        | nil => exact g.elim
        | cons y rest => cases rest with
          | cons _ _ => exact g.elim
          | nil =>
            cases ed : S2[l]? with
            | none => simp only [ed] at g; exact g.elim
            | some c => cases c with
              | lst ys =>
                simp only [ed] at g
                by_cases z : ys.length < sizeLine
                · rw [if_pos z] at g
                  obtain ⟨us, h1, h2⟩ := s2.cell l a' _ hl ed
                  cases rs with
                  | cons dy rn =>
                    cases rn
                    rename_i u
                    have la : Live ρ S2 a' := ⟨l, hl, _, ed, trivial⟩
                    obtain ⟨s3, t3⟩ := s2.write (o := .lst (us ++ [u])) hl ed trivial trivial (c' := .lst (ys ++ [y])) ⟨_, upd_same, DRs.mono (upd_keep la) (fun _ z => .inl z) _ (h2.append (.cons dy .nil))⟩
                    exact ⟨a', us, u, rfl, rfl, h1, by rw [h2.len]; exact z, g _ _ ((t1.trans t2).trans t3) ⟨s3, .d .non⟩⟩
                · rw [if_neg z] at g; exact g.elim
              | dct _ _ => simp only [ed] at g; exact g.elim
              | gone => simp only [ed] at g; exact g.elim
      | dct _ _ => rw [ec] at er; cases er
      | gone => rw [ec] at er; cases er
  | _ => cases er

/-! ### a, b = e -/
theorem imp_asgS {ts : List Tg} {m : Sm} (D : Ends) (σ : L2.St) (H : Hp) : tS G W (fun E S => (m.ev E S).bind fun v S1 => lift (v.dat.bind fun x => asgT (.seq ts) x E) S1) D σ H → tAsg (tI G W m.ev) (tTg G (.seq ts)) D σ H := by
  intro ⟨M, ρ, E, S, hE, hS, g⟩
  refine ⟨M, ρ, E, S, hE, hS, g.ex.imp fun x S1 g v H1 t o => ?_⟩
  obtain ⟨E', e1, g⟩ := GotS.of g
  obtain ⟨d, e2, e3⟩ := Option.bind_eq_some_iff.mp e1
  exact ⟨_, ρ, d, E, E', o.ar.dat e2, hE.step t, e3, fun σ' hE' _ => g ρ σ' H1 t.far hE' o.sim⟩
theorem s_asgS {ts : List Tg} {m : Sm} {tg : Expr} (h : PE X e (tI G W m.ev)) (hg : PG X tg (tTg G (.seq ts))) (hs : swapsWithSole [tg] e pos.line X.env = pure false) (hw : swappedStores [tg] e X.env = pure none) (h1 : (assignEach [tg] X.env).map (·.2) = [assign tg X.env]) :
    PS X (.Assign [tg] e pos) (tS G W fun E S => (m.ev E S).bind fun v S1 => lift (v.dat.bind fun x => asgT (.seq ts) x E) S1) := PS_imp (ps_asg h hg hs hw h1) imp_asgS
theorem set_two {M : Addr → Prop} {ρ : List Addr} {S : Store} {H : Hp} {E' : Env} : ∀ {ns : List Nat} {xs : List Mi.D} {vs : List V} {σ : L2.St} {E : Env}, asgTs (ns.map .nm) xs E = some E' → DRs G H (Av M ρ S) vs xs → EnvR G H (Av M ρ S) ρ σ E → vs.length = ns.length ∧ EnvR G H (Av M ρ S) ρ ((ns.zip vs).foldl (fun s p => s.set p.1 (some p.2)) σ) E'
  | [], [], _, σ, E, h, .nil, hE => by cases h; exact ⟨rfl, hE⟩
  | [], x :: xs, _, σ, E, h, _, hE => by cases h
  | i :: ns, [], _, σ, E, h, _, hE => by cases h
  | i :: ns, x :: xs, _, σ, E, h, .cons r rs, hE => by
    obtain ⟨E1, h1, h2⟩ := Option.bind_eq_some_iff.mp (show (asgT (.nm i) x E).bind (fun E' => asgTs (ns.map .nm) xs E') = some E' from h)
    obtain ⟨z, rfl⟩ := of_if (show (if i < E.length then some (E.set i (some (.d x))) else none) = some E1 from h1)
    obtain ⟨k1, k2⟩ := set_two (ns := ns) h2 rs (hE.set (.d r))
    exact ⟨by rw [List.length_cons, List.length_cons, k1], k2⟩
/-- from a tuple that is taken apart at once -/
theorem imp_par {ns : List Nat} {ms : List Sm} {Fs : Fns} {t : TS} (ht : ∀ (D : Ends) (σ : L2.St) (H : Hp), tAs G W (evAll ms) σ H (fun vs H1 => vs.length = ns.length ∧ D.nx ((ns.zip vs).foldl (fun s p => s.set p.1 (some p.2)) σ) H1) → t D σ H) (D : Ends) (σ : L2.St) (H : Hp) :
    tS G W (fun E S => ((evAll ms E S).bind fun vs S1 => (R.of ((strictAll vs).bind fun xs => if xs.length ≤ sizeLine then some (.d (.tup xs)) else none) S1 : R Val)).bind fun v S1 => lift (v.dat.bind fun x => asgT (.seq (ns.map .nm)) x E) S1) D σ H → t D σ H := by
  intro ⟨M, ρ, E, S, hE, hS, g⟩
  refine ht D σ H ⟨M, ρ, E, S, hE, hS, ?_⟩
  have assoc : ∀ {α β γ : Type} (r : R α) (f : α → Store → R β) (k : β → Store → R γ), (r.bind f).bind k = r.bind fun x S => (f x S).bind k := fun r f k => by cases r <;> rfl
  have g := (congrArg (GotS G W M ρ S H D) (assoc (evAll ms E S) (fun vs S1 => (R.of ((strictAll vs).bind fun xs => if xs.length ≤ sizeLine then some (.d (.tup xs)) else none) S1 : R Val)) fun v S1 => lift (v.dat.bind fun x => asgT (.seq (ns.map .nm)) x E) S1)).mp g
  refine g.ex.imp fun xs S1 g vs H1 t1 s1 r => ?_
  obtain ⟨v, ev, g⟩ := GotS.of g
  obtain ⟨ds, e1, e2⟩ := Option.bind_eq_some_iff.mp ev
  obtain ⟨z, rfl⟩ := of_if e2
  obtain ⟨E', e3, g⟩ := GotS.of g
  obtain ⟨k1, k2⟩ := set_two (ns := ns) (show asgTs (ns.map .nm) ds E = some E' from e3) (ARs.strict r e1) (hE.step t1)
  exact ⟨k1, g ρ _ H1 t1.far k2 s1⟩
theorem tAs_mono {m : Env → Store → R (List Val)} {σ : L2.St} {H : Hp} {Q Q' : List V → Hp → Prop} (f : ∀ vs H, Q vs H → Q' vs H) (h : tAs G W m σ H Q) : tAs G W m σ H Q' := by
  obtain ⟨M, ρ, E, S, hE, hS, g⟩ := h
  exact ⟨M, ρ, E, S, hE, hS, g.imp fun xs S1 q vs H1 t s r => f _ _ (q vs H1 t s r)⟩
theorem par2 {ms : List Sm} {i j : Nat} (D : Ends) (σ : L2.St) (H : Hp) (h : tAs G W (evAll ms) σ H (fun vs H1 => vs.length = [i, j].length ∧ D.nx (([i, j].zip vs).foldl (fun s p => s.set p.1 (some p.2)) σ) H1)) : tPar i j (tAs G W (evAll ms)) D σ H :=
  tAs_mono (fun vs H ⟨l, q⟩ => by
    match vs, l, q with
    | [u, v], _, q => exact ⟨u, v, rfl, q⟩) h
theorem par3 {ms : List Sm} {i j k : Nat} (D : Ends) (σ : L2.St) (H : Hp) (h : tAs G W (evAll ms) σ H (fun vs H1 => vs.length = [i, j, k].length ∧ D.nx (([i, j, k].zip vs).foldl (fun s p => s.set p.1 (some p.2)) σ) H1)) : tPar3 i j k (tAs G W (evAll ms)) D σ H :=
  tAs_mono (fun vs H ⟨l, q⟩ => by
    match vs, l, q with
    | [u, v, w], _, q => exact ⟨u, v, w, rfl, q⟩) h

/-! ### loops -/
theorem s_whl {mt : Sm} {mb : SM} {n : Nat} (hp : PassesOwn (model X.prog X.w) X.A X.env X.xe) (ht : PT X e (tT G W mt.ts)) (hb : PSs X sts (tS G W mb)) : PS X (.While e sts [] pos) (tS G W (whileN mt.ts mb n)) := by
  refine PS_imp (ps_while hp ht hb) fun D σ H ⟨M, ρ, E, S, hE, hS, g⟩ => ?_
  refine ⟨fun m σ H => ∃ ρ E S, EnvR G H (Av M ρ S) ρ σ E ∧ Sim G M H ρ S ∧ GotS G W M ρ S H D (whileN mt.ts mb m E S), ⟨n, ρ, E, S, hE, hS, g⟩, ?_⟩
  rintro m σ H ⟨ρ, E, S, hE, hS, g⟩
  cases m with
  | zero => exact g.elim
  | succ m =>
    refine ⟨M, ρ, E, S, hE, hS, (GotS.ex (f := fun c S1 => if c then (mb E S1).bind fun p S2 => match p.1 with
      | .nx => whileN mt.ts mb m p.2 S2
      | .ct => whileN mt.ts mb m p.2 S2
      | .bk => .ok (.nx, p.2) S2
      | .rt v => .ok (.rt v, p.2) S2
    else .ok (.nx, E) S1) g).imp fun c S1 g H1 t1 s1 => ?_⟩
    have g := g.later t1.far hS s1
    have hE1 := hE.step t1
    cases c with
    | false => exact g ρ σ H1 Far.refl hE1 s1
    | true =>
      rw [if_pos rfl] at g
      refine ⟨fun σ' H' => ∃ ρ E S, EnvR G H' (Av M ρ S) ρ σ' E ∧ Sim G M H' ρ S ∧ GotS G W M ρ S H' D (whileN mt.ts mb m E S), fun σ' H' q => ⟨m, Nat.lt_succ_self m, q⟩, M, ρ, E, S1, hE1, s1, ?_⟩
      cases q : mb E S1 with
      | no => rw [q] at g; exact g.elim
      | ex c a S' => rw [q] at g; exact g
      | ok p S2 =>
        rw [q, R.bind_ok] at g
        obtain ⟨f, E2⟩ := p
        cases f with
        | nx => exact fun ρ' σ' H' t' hE' s' => ⟨ρ', E2, S2, hE', s', g.later t' s1 s'⟩
        | ct => exact fun ρ' σ' H' t' hE' s' => ⟨ρ', E2, S2, hE', s', g.later t' s1 s'⟩
        | bk => exact fun ρ' σ' H' t' hE' s' => g ρ' σ' H' t' hE' s'
        | rt v => exact fun ρ' σ' H' t' => g ρ' σ' H' t'
theorem s_for {mi : Sm} {mb : SM} {tg : Tg} {tgt : Expr} (hp : PassesOwn (model X.prog X.w) X.A X.env X.xe) (hc : X.calm = true) (hi : PI X tgt e (tIt G W mi.it)) (hg : PG X tgt (tTg G tg)) (hb : PSs X sts (tS G W mb)) (hs : ∀ x, foldedSetIterable e X.env x = pure x) :
    PS X (.For tgt e sts [] pos) (tS G W fun E S => (mi.it E S).bind fun xs S1 => loop (fun x E S => (R.of (asgT tg x E) S).bind fun E' S => mb E' S) xs E S1) := by
  refine PS_imp (ps_for hp hc hi hg hb hs) fun D σ H ⟨M, ρ, E, S, hE, hS, g⟩ => ⟨M, ρ, E, S, hE, hS, g.ex.imp fun xs S1 g J H1 t1 s1 it => ?_⟩
  have g := g.later t1.far hS s1
  refine ⟨fun i m σ H' => m = xs.length - i ∧ i ≤ xs.length ∧ ∃ ρ' E' S', Far ρ S1 H1 ρ' S' H' ∧ EnvR G H' (Av M ρ' S') ρ' σ E' ∧ Sim G M H' ρ' S' ∧ GotS G W M ρ' S' H' D (loop (fun x E S => (R.of (asgT tg x E) S).bind fun E' S => mb E' S) (xs.drop i) E' S'),
    ⟨xs.length, rfl, Nat.zero_le _, ρ, E, S1, Far.refl, hE.step t1, s1, g⟩, ?_⟩
  rintro i m σ H2 ⟨rfl, hi, ρ2, E2, S2, f2, hE2, s2, g2⟩
  have hit := it.2 i H2 (Av M ρ2 S2) (fun a o e n => f2.keep a o e fun z => n (.inl z)) fun a z => ⟨z.elim (fun z => (f2.live a z).imp .inl id) fun z => .inl (.inr z), s2.fit a z⟩
  by_cases hlt : i < xs.length
  · right
    obtain ⟨k1, k2⟩ := hit.2 xs[i] (List.getElem?_eq_getElem hlt)
    refine ⟨k1, fun σ' H' => i + 1 ≤ xs.length ∧ ∃ ρ' E' S', Far ρ S1 H1 ρ' S' H' ∧ EnvR G H' (Av M ρ' S') ρ' σ' E' ∧ Sim G M H' ρ' S' ∧ GotS G W M ρ' S' H' D (loop (fun x E S => (R.of (asgT tg x E) S).bind fun E' S => mb E' S) (xs.drop (i + 1)) E' S'),
      fun σ' H' ⟨q1, q2⟩ => ⟨xs.length - (i + 1), by omega, rfl, q1, q2⟩, fun v H3 y => ?_⟩
    obtain ⟨sm, dr⟩ := k2 v H3 y
    have s3 := s2.same sm
    have t3 : Step ρ2 S2 H2 S2 H3 := .same sm
    have f3 := f2.trans s2.all t3.far
    have hE3 := hE2.step t3
    have g3 := g2.later t3.far s2 s3
    rw [List.drop_eq_getElem_cons hlt] at g3
    have g3 : GotS G W M ρ2 S2 H3 D (((R.of (asgT tg xs[i] E2) S2).bind fun E' S => mb E' S).bind fun p S1 => match p.1 with
      | .nx => loop (fun x E S => (R.of (asgT tg x E) S).bind fun E' S => mb E' S) (xs.drop (i + 1)) p.2 S1
      | .ct => loop (fun x E S => (R.of (asgT tg x E) S).bind fun E' S => mb E' S) (xs.drop (i + 1)) p.2 S1
      | .bk => .ok (.nx, p.2) S1
      | .rt v => .ok (.rt v, p.2) S1) := g3
    cases ea : asgT tg xs[i] E2 with
    | none => rw [ea] at g3; exact g3.elim
    | some E4 =>
      rw [ea, R.of_some, R.bind_ok] at g3
      refine ⟨_, ρ2, xs[i], E2, E4, dr, hE3, ea, fun σ4 hE4 _ => ⟨M, ρ2, E4, S2, hE4, s3, ?_⟩⟩
      cases q : mb E4 S2 with
      | no => rw [q] at g3; exact g3.elim
      | ex c a S' => rw [q] at g3; exact g3
      | ok p S5 =>
        rw [q, R.bind_ok] at g3
        obtain ⟨f, E5⟩ := p
        cases f with
        | nx => exact fun ρ' σ' H' t' hE' s' => ⟨hlt, ρ', E5, S5, f3.trans s3.all t', hE', s', g3.later t' s3 s'⟩
        | ct => exact fun ρ' σ' H' t' hE' s' => ⟨hlt, ρ', E5, S5, f3.trans s3.all t', hE', s', g3.later t' s3 s'⟩
        | bk => exact fun ρ' σ' H' t' hE' s' => g3 ρ' σ' H' t' hE' s'
        | rt v => exact fun ρ' σ' H' t' => g3 ρ' σ' H' t'
  · left
    have ei : i = xs.length := by omega
    subst ei
    rw [List.drop_length] at g2
    exact ⟨hit.1 rfl, g2 ρ2 σ H2 Far.refl hE2 s2⟩
end
end Mi

set_option maxHeartbeats 4000000
/-! what is walked: ranges, pairs -/
namespace Mi
open PySem PySem.Spec PyProof.Rows L2
section
variable {G : Gb} {W : WX} {M : Addr → Prop} {ρ : List Addr} {S : Store} {H : Hp}
theorem upTo_len : ∀ (n : Nat) (lo : Int), (upTo lo n).length = n
  | 0, _ => rfl
  | n + 1, lo => by unfold upTo; rw [List.length_cons, upTo_len n]
theorem upTo_get : ∀ (n i : Nat) (lo : Int) (x : D), (upTo lo n)[i]? = some x → x = .int (lo + i)
  | 0, _, _, _, h => by unfold upTo at h; simp at h
  | n + 1, 0, lo, x, h => by unfold upTo at h; simp at h; rw [← h]; simp
  | n + 1, i + 1, lo, x, h => by
    unfold upTo at h
    have q := upTo_get n i (lo + 1) x (by simpa using h)
    rw [q]
    congr 1
    push_cast
    omega
theorem itOk_rng {lo : Int} {n : Nat} (hn : n ≤ sizeLine) : ItOk G M ρ S H (Itr lo n) (upTo lo n) := by
  refine ⟨by rw [upTo_len]; exact hn, fun i H2 N k hN => ⟨fun hi => by rw [upTo_len] at hi; exact Nat.le_of_eq hi, fun x e => ?_⟩⟩
  have hi : i < n := by
    have := (List.getElem?_eq_some_iff.mp e).1
    rwa [upTo_len] at this
  refine ⟨hi, fun v H3 ⟨eH, ev⟩ => ?_⟩
  subst eH ev
  rw [upTo_get _ _ _ _ e]
  exact ⟨Same.refl _, .int _⟩
theorem evAll_len : ∀ (ms : List Sm) {E : Env} {S S' : Store} {vs : List Val}, evAll ms E S = .ok vs S' → vs.length = ms.length
  | [], _, _, _, _, h => by unfold evAll at h; cases h; rfl
  | m :: ms, E, S, S', vs, h => by
    unfold evAll at h
    obtain ⟨v, S1, _, h⟩ := bind_ok h
    obtain ⟨us, S2, h2, h⟩ := bind_ok h
    cases h
    rw [List.length_cons, List.length_cons, evAll_len ms h2]
theorem strictAll_len : ∀ {vs : List Val} {xs : List D}, strictAll vs = some xs → xs.length = vs.length
  | [], _, h => by unfold strictAll at h; cases h; rfl
  | v :: vs, xs, h => by
    unfold strictAll at h
    obtain ⟨x, _, h⟩ := Option.bind_eq_some_iff.mp h
    obtain ⟨ys, h2, rfl⟩ := Option.map_eq_some_iff.mp h
    rw [List.length_cons, List.length_cons, strictAll_len h2]
theorem imp_rng1 {ms : List Sm} (hl : ms.length = 1) (σ : L2.St) (H : Hp) (RR : It → Hp → Prop) : tIt G W (fun E S => (evAll ms E S).bind fun vs S1 => R.of ((strictAll vs).bind rngD) S1) σ H RR → iRng1 (tAs G W (evAll ms)) σ H RR := by
  intro ⟨M, ρ, E, S, hE, hS, g⟩
  have g := Got.bind g
  cases q : evAll ms E S with
  | no => rw [q] at g; exact g.elim
  | ex c a S' => exact ⟨M, ρ, E, S, hE, hS, by rw [q] at g ⊢; exact g⟩
  | ok vs S1 =>
    rw [q] at g
    obtain ⟨xs, ex, g⟩ := of_some (show Got G W M σ ρ S H (R.of ((strictAll vs).bind rngD) S1) _ from g)
    obtain ⟨ds, e1, e2⟩ := Option.bind_eq_some_iff.mp ex
    have hd : ds.length = 1 := by rw [strictAll_len e1, evAll_len ms q, hl]
    match ds, hd, e1, e2 with
    | [d], _, e1, e2 =>
      cases d with
      | int j =>
        obtain ⟨z, rfl⟩ := of_if e2
        simp only [Bool.and_eq_true, decide_eq_true_eq] at z
        refine ⟨M, ρ, E, S, hE, hS, ?_⟩
        rw [q]
        intro us H' t s r
        have rs := ARs.strict r e1
        cases rs with
        | cons h rn =>
          cases rn
          cases h
          exact ⟨j, rfl, z.1.1, z.1.2, g _ H' t s (itOk_rng (by omega))⟩
      | _ => cases e2
theorem imp_rng2 {ms : List Sm} (hl : ms.length = 2) (σ : L2.St) (H : Hp) (RR : It → Hp → Prop) : tIt G W (fun E S => (evAll ms E S).bind fun vs S1 => R.of ((strictAll vs).bind rngD) S1) σ H RR → iRng2 (tAs G W (evAll ms)) σ H RR := by
  intro ⟨M, ρ, E, S, hE, hS, g⟩
  have g := Got.bind g
  cases q : evAll ms E S with
  | no => rw [q] at g; exact g.elim
  | ex c a S' => exact ⟨M, ρ, E, S, hE, hS, by rw [q] at g ⊢; exact g⟩
  | ok vs S1 =>
    rw [q] at g
    obtain ⟨xs, ex, g⟩ := of_some (show Got G W M σ ρ S H (R.of ((strictAll vs).bind rngD) S1) _ from g)
    obtain ⟨ds, e1, e2⟩ := Option.bind_eq_some_iff.mp ex
    have hd : ds.length = 2 := by rw [strictAll_len e1, evAll_len ms q, hl]
    match ds, hd, e1, e2 with
    | [d, d2], _, e1, e2 =>
      cases d with
      | int i =>
        cases d2 with
        | int j =>
          obtain ⟨z, rfl⟩ := of_if e2
          simp only [Bool.and_eq_true, decide_eq_true_eq] at z
          refine ⟨M, ρ, E, S, hE, hS, ?_⟩
          rw [q]
          intro us H' t s r
          have rs := ARs.strict r e1
          cases rs with
          | cons h rn =>
            cases h
            cases rn with
            | cons h2 rn =>
              cases rn
              cases h2
              exact ⟨i, j, rfl, ⟨z.1.1.1.1, z.1.1.1.2, z.1.1.2, z.1.2⟩, g _ H' t s (itOk_rng (by omega))⟩
        | _ => cases e2
      | _ => cases e2

/-! ### pairs -/
theorem zipD_len : ∀ (xs ys : List D), (zipD xs ys).length = min xs.length ys.length
  | [], _ => by unfold zipD; simp
  | _ :: _, [] => by unfold zipD; simp
  | x :: xs, y :: ys => by unfold zipD; rw [List.length_cons, zipD_len xs ys]; simp only [List.length_cons]; omega
theorem zipD_get : ∀ (xs ys : List D) (i : Nat) (z : D), (zipD xs ys)[i]? = some z → ∃ x y, xs[i]? = some x ∧ ys[i]? = some y ∧ z = .tup [x, y]
  | [], _, _, _, h => by unfold zipD at h; simp at h
  | _ :: _, [], _, _, h => by unfold zipD at h; simp at h
  | x :: xs, y :: ys, 0, z, h => by unfold zipD at h; simp at h; exact ⟨x, y, rfl, rfl, h.symm⟩
  | x :: xs, y :: ys, i + 1, z, h => by
    unfold zipD at h
    obtain ⟨a, b, h1, h2, h3⟩ := zipD_get xs ys i z (by simpa using h)
    exact ⟨a, b, by simpa using h1, by simpa using h2, h3⟩
theorem enumD_len : ∀ (xs : List D) (k : Int), (enumD k xs).length = xs.length
  | [], _ => rfl
  | x :: xs, k => by unfold enumD; rw [List.length_cons, enumD_len xs]; rfl
theorem enumD_get : ∀ (xs : List D) (k : Int) (i : Nat) (z : D), (enumD k xs)[i]? = some z → ∃ x, xs[i]? = some x ∧ z = .tup [.int (k + i), x]
  | [], _, _, _, h => by unfold enumD at h; simp at h
  | x :: xs, k, 0, z, h => by unfold enumD at h; simp at h; exact ⟨x, rfl, by simp [← h]⟩
  | x :: xs, k, i + 1, z, h => by
    unfold enumD at h
    obtain ⟨a, h1, h2⟩ := enumD_get xs (k + 1) i z (by simpa using h)
    refine ⟨a, by simpa using h1, ?_⟩
    rw [h2]
    congr 3
    push_cast
    omega
/-- a list, or a tuple, that stands -/
def SqB (p : Bool) (K : PySem.W.Frag) (H : Hp) (a : Addr) (xs : List V) : Prop := if p then SqL K H a xs else SqT K H a xs
theorem DR.sqB {N : Addr → Prop} {v : V} {d : D} {xs : List D} (h : DR G H N v d) (e : itemsOf d = some xs) : ∃ p a vs, v = .ref a ∧ SqB p G.K H a vs ∧ DRs G H N vs xs ∧ ∀ (H2 : Hp), (∀ a o, H a = some o → ¬ N a → H2 a = some o) → SqB p G.K H2 a vs := by
  cases d with
  | lst ys =>
    cases e
    obtain ⟨a, vs, rfl, h1, n, h2⟩ := h.listR
    exact ⟨true, a, vs, rfl, .inl h1, h2, fun H2 k => .inl (h1.imp (fun e => k _ _ e n) fun ⟨o, e⟩ => ⟨o, k _ _ e n⟩)⟩
  | klst ys =>
    cases e
    obtain ⟨a, vs, rfl, h1, h2⟩ := h.klstR
    refine ⟨true, a, vs, rfl, h1.sq, h2, fun H2 k => ?_⟩
    rcases h1 with ⟨h, n⟩ | h
    · exact .inl (h.imp (fun e => k _ _ e n) fun ⟨o, e⟩ => ⟨o, k _ _ e n⟩)
    · exact .inr h
  | tup ys =>
    cases e
    obtain ⟨a, vs, rfl, h1, h2, h3⟩ := h.tupR
    refine ⟨false, a, vs, rfl, h1, h2, fun H2 k => ?_⟩
    rcases h3 with ⟨h, n⟩ | h
    · exact .inl (h.imp (fun e => k _ _ e n) fun ⟨o, e⟩ => ⟨o, k _ _ e n⟩)
    · exact .inr h
  | _ => cases e
/-- pairs from two that stand -/
def ItzB (K : PySem.W.Frag) (p q : Bool) (a b : Addr) : It :=
  ⟨fun i H => ∃ (xs ys : List V) (x y : V), SqB p K H a xs ∧ SqB q K H b ys ∧ xs[i]? = some x ∧ ys[i]? = some y,
    fun i H v H' => ∃ T x y, v = .ref T ∧ H T = none ∧ H' = upd H T (.tup [x, y]) ∧ (∀ xs, SqB p K H a xs → xs[i]? = some x) ∧ ∀ ys, SqB q K H b ys → ys[i]? = some y,
    fun i H => ∃ xs ys : List V, SqB p K H a xs ∧ SqB q K H b ys ∧ i = min xs.length ys.length⟩
theorem itOk_zip {p q : Bool} {a b : Addr} {us ws : List V} {xs ys : List D} (z : us.length ≤ sizeLine) (h1 : ∀ (H2 : Hp), (∀ a o, H a = some o → ¬ Av M ρ S a → H2 a = some o) → SqB p G.K H2 a us) (h2 : ∀ (H2 : Hp), (∀ a o, H a = some o → ¬ Av M ρ S a → H2 a = some o) → SqB q G.K H2 b ws)
    (r1 : DRs G H (Av M ρ S) us xs) (r2 : DRs G H (Av M ρ S) ws ys) : ItOk G M ρ S H (ItzB G.K p q a b) (zipD xs ys) := by
  refine ⟨by rw [zipD_len, ← r1.len]; omega, fun i H2 N k hN => ?_⟩
  have s1 := h1 H2 k
  have s2 := h2 H2 k
  refine ⟨fun hi => ⟨us, ws, s1, s2, ?_⟩, fun x e => ?_⟩
  · rw [zipD_len] at hi
    rw [r1.len, r2.len]
    exact hi.symm
  · obtain ⟨dx, dy, e1, e2, rfl⟩ := zipD_get _ _ _ _ e
    obtain ⟨v, v1, v2⟩ := r1.get e1
    obtain ⟨u, u1, u2⟩ := r2.get e2
    refine ⟨⟨us, ws, v, u, s1, s2, v1, u1⟩, fun w H3 ⟨T, x, y, ew, eT, eH, q1, q2⟩ => ?_⟩
    subst ew eH
    have ex := q1 us s1
    rw [v1] at ex
    cases ex
    have ey := q2 ws s2
    rw [u1] at ey
    cases ey
    have sm : Same H2 (upd H2 T (.tup [v, u])) := same_upd eT
    refine ⟨sm, .tup (.inl upd_same) (fun n => (hN T n).2 eT) (.cons ?_ (.cons ?_ .nil))⟩
    · exact (DR.mono k (fun c z => (hN c z).1) _ v2).same sm
    · exact (DR.mono k (fun c z => (hN c z).1) _ u2).same sm
def iZipB (K : PySem.W.Frag) (ta : TA) : TI := fun σ H R => ta σ H fun vs H1 => Sz K H1 → ∃ p q a b xs ys, vs = [.ref a, .ref b] ∧ SqB p K H1 a xs ∧ SqB q K H1 b ys ∧ R (ItzB K p q a b) H1
theorem imp_zip {ms : List Sm} (σ : L2.St) (H : Hp) (RR : It → Hp → Prop) : tIt G W (fun E S => (evAll ms E S).bind fun vs S1 => R.of ((strictAll vs).bind zipA) S1) σ H RR → iZipB G.K (tAs G W (evAll ms)) σ H RR := by
  intro ⟨M, ρ, E, S, hE, hS, g⟩
  refine ⟨M, ρ, E, S, hE, hS, (Got.bind g).imp fun xs S1 g vs H1 t1 s1 r sz => ?_⟩
  obtain ⟨y, ey, g⟩ := of_some g
  obtain ⟨ds, e1, e2⟩ := Option.bind_eq_some_iff.mp ey
  have rs := ARs.strict r e1
  unfold zipA at e2
  split at e2
  · obtain ⟨xs', e3, e4⟩ := Option.bind_eq_some_iff.mp e2
    obtain ⟨ys', e5, rfl⟩ := Option.map_eq_some_iff.mp e4
    cases rs with
    | cons h rn =>
      cases rn with
      | cons h2 rn =>
        cases rn
        obtain ⟨p, a, us, rfl, k1, k2, k3⟩ := h.sqB e3
        obtain ⟨q, b, ws, rfl, j1, j2, j3⟩ := h2.sqB e5
        have z : us.length ≤ sizeLine := by
          cases p with
          | true => exact sz.1 a us k1
          | false => exact sz.2 a us k1
        exact ⟨p, q, a, b, us, ws, rfl, k1, j1, g _ H1 t1 s1 (itOk_zip z k3 j3 k2 j2)⟩
  · cases e2
theorem itOk_enum {a : Addr} {us : List V} {xs : List D} (z : us.length ≤ sizeLine) (h1 : ∀ (H2 : Hp), (∀ a o, H a = some o → ¬ Av M ρ S a → H2 a = some o) → SqL G.K H2 a us) (r1 : DRs G H (Av M ρ S) us xs) : ItOk G M ρ S H (Ite G.K a) (enumD 0 xs) := by
  refine ⟨by rw [enumD_len, ← r1.len]; exact z, fun i H2 N k hN => ?_⟩
  have s1 := h1 H2 k
  refine ⟨fun hi => ⟨us, s1, by rw [enumD_len] at hi; rw [r1.len]; exact Nat.le_of_eq hi⟩, fun x e => ?_⟩
  obtain ⟨dx, e1, rfl⟩ := enumD_get _ _ _ _ e
  obtain ⟨v, v1, v2⟩ := r1.get e1
  refine ⟨⟨us, v, s1, v1⟩, fun w H3 ⟨T, x, ew, eT, eH, q1⟩ => ?_⟩
  subst ew eH
  have ex := q1 us s1
  rw [v1] at ex
  cases ex
  have sm : Same H2 (upd H2 T (.tup [.int (i : Nat), v])) := same_upd eT
  refine ⟨sm, .tup (.inl upd_same) (fun n => (hN T n).2 eT) (.cons ?_ (.cons ?_ .nil))⟩
  · rw [Int.zero_add]; exact .int _
  · exact (DR.mono k (fun c z => (hN c z).1) _ v2).same sm
theorem imp_enum {ms : List Sm} (σ : L2.St) (H : Hp) (RR : It → Hp → Prop) : tIt G W (fun E S => (evAll ms E S).bind fun vs S1 => R.of ((strictAll vs).bind enumA) S1) σ H RR → tAs G W (evAll ms) σ H (fun vs H1 => Sz G.K H1 → ∃ a xs, vs = [.ref a] ∧ SqL G.K H1 a xs ∧ RR (Ite G.K a) H1) := by
  intro ⟨M, ρ, E, S, hE, hS, g⟩
  refine ⟨M, ρ, E, S, hE, hS, (Got.bind g).imp fun xs S1 g vs H1 t1 s1 r sz => ?_⟩
  obtain ⟨y, ey, g⟩ := of_some g
  obtain ⟨ds, e1, e2⟩ := Option.bind_eq_some_iff.mp ey
  have rs := ARs.strict r e1
  unfold enumA at e2
  split at e2
  · cases e2
    cases rs with
    | cons h rn =>
      cases rn
      obtain ⟨a, us, rfl, k1, n, k2⟩ := h.listR
      exact ⟨a, us, rfl, .inl k1, g _ H1 t1 s1 (itOk_enum (sz.1 a us (.inl k1)) (fun H2 k => .inl (k1.imp (fun e => k _ _ e n) fun ⟨o, e⟩ => ⟨o, k _ _ e n⟩)) k2)⟩
  · cases e2
end
section
variable {X : Cx} {es : List Expr} {ta : TA}
theorem PA_sz {t : TA} (h : PA X es t) : PA X es (fun σ H Q => t σ H fun v H' => Sz X.K H' → Q v H') :=
  ⟨fun pos p s σ H Q I q => thn (h.run pos p s σ H _ I q) fun u s' ⟨v, H', I', r, k⟩ => ⟨v, H', I', r, k (Inv_sz I')⟩⟩
end
end Mi

set_option maxHeartbeats 4000000
/-! pairs from a list or a tuple with a list or a tuple -/
namespace Mi
open PySem PySem.Spec PyProof.Rows L2
/-- an iterator over what stands at a -/
def ItA (p : Bool) (h : Heap) (it a : Addr) (i : Nat) : Prop := ∃ o, h.get? it = some o ∧ o.cls = .type (if p then "list_iterator" else "tuple_iterator") ∧ o.data = .fields #[.ref a, .int i 0]
theorem ItA.at {p : Bool} {h h' : Heap} {it a : Addr} {i : Nat} (x : ItA p h it a i) (k : ∀ o, h.get? it = some o → h'.get? it = some o) : ItA p h' it a i := let ⟨o, e, r⟩ := x; ⟨o, k o e, r⟩
def SrcAt (p : Bool) (h : Heap) (a : Addr) (its : Array Value) : Prop := if p then h.IsList a its else h.IsTuple a its
theorem drawsB {prog : Program} {w : World} {A : Around} (p : Bool) (hh : A.handled = none) (it a : Addr) (hne : a ≠ it) (its : Array Value) :
    Draws prog w A it [it, a] its.size (fun i v => its[i]? = some v) (fun i h => ItA p h it a i ∧ SrcAt p h a its) := by
  cases p with
  | true => exact Draws.list hh it a hne its
  | false => exact Draws.tuple hh it a hne its
theorem srcB {X : Cx} {pins : List (Addr × Obj)} {σ : L2.St} {H : Hp} {s : Shared} {p : Bool} {a : Addr} {xs : List V} (I : Inv X pins σ H s) (h : SqB p X.K H a xs) : ∃ its : List Value, Vals xs its ∧ SrcAt p s.heap a its.toArray := by
  cases p with
  | true => obtain ⟨its, r, pl, _⟩ := I.list h; exact ⟨its, r, pl.isList⟩
  | false => obtain ⟨its, r, t, _⟩ := I.tuple h; exact ⟨its, r, t⟩
theorem ItA.apart {p : Bool} {h : Heap} {a it : Addr} {i : Nat} {its : Array Value} (x : ItA p h it a i) (y : SrcAt p h a its) : a ≠ it := fun e => by
  subst e
  obtain ⟨o, e1, c1, _⟩ := x
  cases p with
  | true => obtain ⟨o', e2, c2, _⟩ := (show h.IsList a its from y); rw [e1] at e2; cases e2; rw [c1] at c2; exact absurd c2 (by decide)
  | false => obtain ⟨o', e2, c2, _⟩ := (show h.IsTuple a its from y); rw [e1] at e2; cases e2; rw [c1] at c2; exact absurd c2 (by decide)
theorem SrcAt.lt {p : Bool} {h : Heap} {a : Addr} {its : Array Value} (x : SrcAt p h a its) : a < h.objs.size := by
  cases p with
  | true => obtain ⟨o, e, _⟩ := (show h.IsList a its from x); exact Heap.lt_size e
  | false => obtain ⟨o, e, _⟩ := (show h.IsTuple a its from x); exact Heap.lt_size e
theorem sqB_inj {X : Cx} {pins : List (Addr × Obj)} {σ : L2.St} {H : Hp} {s : Shared} {p : Bool} {a : Addr} {xs ys : List V} (I : Inv X pins σ H s) (h : SqB p X.K H a xs) (h' : SqB p X.K H a ys) : xs = ys := by
  cases p with
  | true => exact I.list_inj h h'
  | false => exact I.tuple_inj h h'
theorem turn_zipB {P : Program} {w : World} {K : PySem.W.Frag} {elts : List Expr} {kk : Nat} {tpos : Pos} {p q : Bool} {a b z TI TO i1 i2 : Addr} (D : ZipSep2 z TI TO i1 i2 [i1, a] [i2, b]) :
    Turn P w K (.Tuple elts kk tpos) (ItzB K p q a b) [z, TI, TO, i1, i2] z (fun i h => IsZip h z TI TO .none ∧ IsTupOf2 h TI (.ref i1) (.ref i2) ∧ (∃ x y, IsTupOf2 h TO x y) ∧ ItA p h i1 a i ∧ ItA q h i2 b i) := by
  have i1z : i1 ≠ z := D.zi1.symm
  have i2z : i2 ≠ z := D.zi2.symm
  refine ⟨by simp, fun i h st c hc => ?_, fun i h h' st k => ?_, ?_, ?_, fun A i s Q E st h => wpAny_pyIter_zip st.1 h⟩
  · obtain ⟨hz, hTI, ⟨x, y, hTO⟩, ⟨o1, e1, _, d1⟩, o2, e2, _, d2⟩ := st
    simp only [List.mem_cons, List.not_mem_nil, or_false] at hc
    rcases hc with e | e | e | e | e <;> subst e
    · exact ⟨_, hz, fun v q => nomatch q⟩
    · exact ⟨_, hTI, fun v q => nomatch q⟩
    · exact ⟨_, hTO, fun v q => nomatch q⟩
    · exact ⟨o1, e1, fun v q => by rw [d1] at q; cases q⟩
    · exact ⟨o2, e2, fun v q => by rw [d2] at q; cases q⟩
  · obtain ⟨hz, hTI, ⟨x, y, hTO⟩, h1, h2⟩ := st
    exact ⟨k z (by simp) _ hz, k TI (by simp) _ hTI, ⟨x, y, k TO (by simp) _ hTO⟩, h1.at fun o e => k i1 (by simp) o e, h2.at fun o e => k i2 (by simp) o e⟩
  · intro X hP hw hK hc i pins s σ H E I hf st hg
    subst hP hw hK
    obtain ⟨hz, hTI, ⟨x0, y0, hTO⟩, h1, h2⟩ := st
    obtain ⟨xs, ys, x, y, kx, ky, ex, ey⟩ := hg
    obtain ⟨its, rv, sx⟩ := srcB I kx
    obtain ⟨its2, rv2, sy⟩ := srcB I ky
    obtain ⟨u, hu, ru⟩ := rv.get ex
    obtain ⟨u2, hu2, ru2⟩ := rv2.get ey
    have ne1 := h1.apart sx
    have ne2 := h2.apart sy
    have hzl : z < s.heap.objs.size := Heap.lt_size hz
    refine wpAny_pyNext_zipD2_item D (drawsB (A := X.A.in1) p (I.ok.hd hc) i1 a ne1 its.toArray) (drawsB (A := X.A.in1) q (I.ok.hd hc) i2 b ne2 its2.toArray) hz hTI hTO ⟨h1, sx⟩ ⟨h2, sy⟩ (by simpa using (List.getElem?_eq_some_iff.mp hu).1) (by simpa using (List.getElem?_eq_some_iff.mp hu2).1)
      fun v1 v2 h' tk w1 w2 z' TO' st1 st2 hT hsz hk => ?_
    have w1 : its[i]? = some v1 := by simpa using w1
    have w2 : its2[i]? = some v2 := by simpa using w2
    rw [hu] at w1
    cases w1
    rw [hu2] at w2
    cases w2
    refine ⟨_, rfl, wpAny_letOwnedTupleGo_zip (s := { s with heap := h', toks := tk }) z' fun h'' z'' sb => ?_⟩
    have new : ObjOk X.prog X.w (upd H s.heap.objs.size (.tup [x, y])) h'' s.heap.objs.size (.tup [x, y]) :=
      ⟨by show 2 ≤ sizeLine; decide, [u, u2], .cons ru (.cons ru2 .nil), ⟨_, (sb.2 _ (Nat.ne_of_gt hzl)).trans hT, rfl, _, rfl⟩⟩
    have I1 : Inv X pins σ (upd H s.heap.objs.size (.tup [x, y])) { s with heap := h'', toks := tk } := by
      refine I.turnedNew (ch := [z, TI, TO, i1, i2]) (fun c o hb e => ?_) hf (Nat.le_refl _) new
      simp only [List.mem_cons, List.not_mem_nil, or_false, not_or] at hb
      exact (sb.2 c hb.1).trans (hk c o hb.1 hb.2.2.1 hb.2.2.2.1 hb.2.2.2.2 e)
    refine ⟨.ref s.heap.objs.size, _, I1, rfl, ⟨_, x, y, rfl, I.hok.fresh (Nat.le_refl _), rfl, fun l hl => by rw [sqB_inj I hl kx]; exact ex, fun l hl => by rw [sqB_inj I hl ky]; exact ey⟩,
      ⟨z'', (sb.2 _ D.TIz).trans (hk _ _ D.TIz D.TITO D.TIi1 D.TIi2 hTI), ⟨u, u2, (sb.2 _ D.TOz).trans TO'⟩, st1.1.at fun o e => (sb.2 _ i1z).trans e, st2.1.at fun o e => (sb.2 _ i2z).trans e⟩, fun c hcm => ?_⟩
    have hlt : c < s.heap.objs.size := by
      have hcm' := hcm
      simp only [List.mem_cons, List.not_mem_nil, or_false] at hcm'
      rcases hcm' with e | e | e | e | e <;> subst e
      · exact hzl
      · exact Heap.lt_size hTI
      · exact Heap.lt_size hTO
      · obtain ⟨_, e1, _⟩ := h1; exact Heap.lt_size e1
      · obtain ⟨_, e2, _⟩ := h2; exact Heap.lt_size e2
    rw [upd_ne (Nat.ne_of_lt hlt)]
    exact (hf c hcm).1
  · intro X hP hw hK hc i pins s σ H E I hf st hg
    subst hP hw hK
    obtain ⟨hz, hTI, ⟨x0, y0, hTO⟩, h1, h2⟩ := st
    obtain ⟨xs, ys, kx, ky, hend⟩ := hg
    obtain ⟨its, rv, sx⟩ := srcB I kx
    obtain ⟨its2, rv2, sy⟩ := srcB I ky
    have l1 := rv.length
    have l2 := rv2.length
    exact wpAny_pyNext_zipD2_end D (drawsB (A := X.A.in1) p (I.ok.hd hc) i1 a (h1.apart sx) its.toArray) (drawsB (A := X.A.in1) q (I.ok.hd hc) i2 b (h2.apart sy) its2.toArray) hz hTI hTO ⟨h1, sx⟩ ⟨h2, sy⟩ (by simp; omega) (by simp; omega) (by simp; omega)
      fun h' tk hk => ⟨rfl, I.turnedL (t' := tk) (ch := [z, TI, TO, i1, i2]) (fun c o hb e => by
        simp only [List.mem_cons, List.not_mem_nil, or_false, not_or] at hb
        exact hk c o hb.1 hb.2.2.1 hb.2.2.2.1 hb.2.2.2.2 e) hf⟩
theorem begB (p : Bool) (a : Addr) (its : Array Value) : Begins (.ref a) { cls := .type (if p then "list_iterator" else "tuple_iterator"), data := .fields #[.ref a, .int 0 0] } fun h => SrcAt p h a its := by
  cases p with
  | true => exact begins_list a its
  | false => exact begins_tuple a its
theorem pi_zipB {X : Cx} {e e2 : Expr} {ta : TA} {p pos tpos : Pos} {elts : List Expr} {kk : Nat} (hg : Gl X "zip") (hm : X.mg "zip" = none) (ha : PA X [e, e2] ta)
    (hs : starEach [e, e2] X.env = (false, eval e X.env) :: starEach [e2] X.env) (hpl : (backTo pos (starEach [e2] X.env)).any (·.1) = false) :
    PI X (.Tuple elts kk tpos) (.Call (.Name "zip" p) [e, e2] [] pos) (iZipB X.K ta) := by
  refine ⟨fun pins s σ H R I h => ?_⟩
  refine Call_ (ld_blt I hg hm PyProof.Rows.boot_zip (PyProof.Rows.callWith_type1 (thn (ha.run pos pins s σ H _ I h) fun us s1 ⟨vs, H1, I1, r1, q1⟩ => ?_) hs hpl))
  obtain ⟨pa, pb, a, b, xs, ys, ex, hqx, hqy, q⟩ := q1 (Inv_sz I1)
  subst ex
  cases r1 with
  | cons r rr =>
    cases rr with
    | cons r' rr =>
      cases rr
      cases r
      cases r'
      obtain ⟨its, rv, sx⟩ := srcB I1 hqx
      obtain ⟨its2, rv2, sy⟩ := srcB I1 hqy
      refine zip_begins2 (begB pa a its.toArray) (begB pb b its2.toArray) sx sy fun h' hz hTI hTO g1 g2 hsz hk => wpAny_pyIter_zip hz ?_
      have I2 : Inv X pins σ H1 { s1 with heap := h' } := I1.kept (t' := s1.toks) hk
      have D : ZipSep2 (s1.heap.objs.size + 4) (s1.heap.objs.size + 2) (s1.heap.objs.size + 3) s1.heap.objs.size (s1.heap.objs.size + 1) [s1.heap.objs.size, a] [s1.heap.objs.size + 1, b] :=
        zip_sep2 (fun c hc => by rw [List.mem_singleton.mp hc]; exact sx.lt) fun c hc => by rw [List.mem_singleton.mp hc]; exact sy.lt
      refine ⟨s1.heap.objs.size + 4, [s1.heap.objs.size + 4, s1.heap.objs.size + 2, s1.heap.objs.size + 3, s1.heap.objs.size, s1.heap.objs.size + 1], _, _, H1, rfl, I2, turn_zipB D, ⟨hz, hTI, ⟨_, _, hTO⟩, ⟨_, g1, rfl, rfl⟩, ⟨_, g2, rfl, rfl⟩⟩, fun c hcm => ?_, q⟩
      have hle : s1.heap.objs.size ≤ c := by
        simp only [List.mem_cons, List.not_mem_nil, or_false] at hcm
        rcases hcm with e | e | e | e | e <;> subst e <;> first | exact Nat.le_refl _ | exact Nat.le_add_right _ _
      exact I1.fpOk hle (I1.hok.fresh hle)
end Mi

set_option maxHeartbeats 4000000
/-! does an expression of the text look like one of the small language -/
namespace Mi
open PySem PySem.Spec PyProof.Rows L2
/-- the text's names -/
structure Tb where
  fns : List Str
  gls : List Str
  cls : List Str
  blt : List Str
def glo (sc : Scope) (x : Str) : Bool := decide (sc.names.lookup x = some .globalImplicit) && !(x == ("__debug__" : Str))
def vis (sc : Scope) (x : Str) : Bool := (decide (sc.names.lookup x = some .local) || decide (sc.names.lookup x = some .cell) || decide (sc.names.lookup x = some .free)) && (!(x == ("__debug__" : Str)) && !(x == ("__classdict__" : Str)))
def isPair : Ex → Bool
  | .zip _ => true
  | .enum _ => true
  | _ => false
def notSet : Expr → Bool
  | .Set _ _ _ => false
  | _ => true
def notStar : Expr → Bool
  | .Starred _ _ => false
  | _ => true
def notSlice : Expr → Bool
  | .Slice _ _ _ _ => false
  | _ => true
def notCall : Expr → Bool
  | .Call _ _ _ _ => false
  | _ => true
def ownN (N : List Str) (vs : List Nat) : List (Str × Nat) := vs.map fun i => (N.getD i default, i)
theorem ownN_2 (N : List Str) (vs : List Nat) : (ownN N vs).map (·.2) = vs := by
  unfold ownN
  rw [List.map_map]
  exact List.map_id' vs
/-- a comprehension's clause, but for its parts -/
def chkC (N : List Str) (sc scope : Scope) (vs : List Nat) (tg : Tg) (it : Ex) (tgt iter : Expr) : Bool :=
  blkC N sc scope (ownN N vs) && (tg.slots.all fun i => vs.contains i) && chkT N scope tg tgt && notSet iter && (!isPair it || tupT tgt)
mutual
def chkE (T : Tb) (N : List Str) : Scope → Ex → Expr → Bool
  | sc, .kN, e => match e with
    | .Constant c _ _ => decide (c = .none)
    | _ => false
  | sc, .kB b, e => match e with
    | .Constant c _ _ => decide (c = .bool b)
    | _ => false
  | sc, .kI i, e => match e with
    | .Constant c _ _ => decide (c = .int i)
    | _ => false
  | sc, .kS s, e => match e with
    | .Constant c _ _ => decide (c = .str s)
    | _ => false
  | sc, .var i, e => match e with
    | .Name x _ => N[i]? == some x && vis sc x
    | _ => false
  | sc, .glb g, e => match e with
    | .Name x _ => T.gls[g]? == some x && glo sc x
    | _ => false
  | sc, .fnv f, e => match e with
    | .Name x _ => T.fns[f]? == some x && glo sc x
    | _ => false
  | sc, .typ n, e => match e with
    | .Name x _ => x == Str.ofString n && asked.contains n && T.blt.contains x && glo sc x
    | _ => false
  | sc, .clsv c, e => match e with
    | .Name x _ => T.cls[c]? == some x && glo sc x
    | _ => false
  | sc, .neg a, e => match e with
    | .UnaryOp op a' _ => decide (op = .USub) && chkE T N sc a a'
    | _ => false
  | sc, .bin op a b, e => match e with
    | .BinOp a' op' b' _ => decide (op = op') && chkE T N sc a a' && chkE T N sc b b'
    | _ => false
  | sc, .cmp op a b, e => match e with
    | .Compare a' [op'] [b'] _ => decide (op = op') && !behindInMarks op b' && chkE T N sc a a' && chkE T N sc b b'
    | _ => false
  | sc, .chn o1 o2 a b c, e => match e with
    | .Compare a' [p1, p2] [b', c'] _ => decide (o1 = p1) && decide (o2 = p2) && !lastMarks [o1, o2] [b', c'] && chkE T N sc a a' && chkE T N sc b b' && chkE T N sc c c'
    | _ => false
  | sc, .andE es, e => match e with
    | .BoolOp op es' _ => decide (op = .And) && !es'.isEmpty && chkEs T N sc es es'
    | _ => false
  | sc, .orE es, e => match e with
    | .BoolOp op es' _ => decide (op = .Or) && !es'.isEmpty && chkEs T N sc es es'
    | _ => false
  | sc, .notE a, e => match e with
    | .UnaryOp op a' _ => decide (op = .Not) && chkE T N sc a a'
    | _ => false
  | sc, .ife t a b, e => match e with
    | .IfExp t' a' b' _ => chkE T N sc t t' && chkE T N sc a a' && chkE T N sc b b'
    | _ => false
  | sc, .tup es, e => match e with
    | .Tuple es' _ _ => chkEs T N sc es es'
    | _ => false
  | sc, .lst es, e => match e with
    | .List es' _ => chkEs T N sc es es'
    | _ => false
  | sc, .ix a i, e => match e with
    | .Subscript a' i' _ => notSlice i' && chkE T N sc a a' && chkE T N sc i i'
    | _ => false
  | sc, .slc a lo hi, e => match e with
    | .Subscript a' (.Slice lo' hi' none _) _ => chkE T N sc a a' && chkO T N sc lo lo' && chkO T N sc hi hi'
    | _ => false
  | sc, .call f es, e => match e with
    | .Call (.Name x _) es' [] _ => T.fns[f]? == some x && glo sc x && chkEs T N sc es es'
    | _ => false
  | sc, .bi b es, e => match e with
    | .Call (.Name x _) es' [] _ => x == Str.ofString b.id && T.blt.contains x && glo sc x && !es'.isEmpty && chkEs T N sc es es'
    | _ => false
  | sc, .rng es, e => match e with
    | .Call (.Name x _) es' [] _ => x == "range" && T.blt.contains x && glo sc x && (decide (es'.length = 1) || decide (es'.length = 2)) && chkEs T N sc es es'
    | _ => false
  | sc, .zip es, e => match e with
    | .Call (.Name x _) es' [] _ => x == "zip" && T.blt.contains x && glo sc x && decide (es'.length = 2) && chkEs T N sc es es'
    | _ => false
  | sc, .enum es, e => match e with
    | .Call (.Name x _) es' [] _ => x == "enumerate" && T.blt.contains x && glo sc x && decide (es'.length = 1) && chkEs T N sc es es'
    | _ => false
  | sc, .mt m a es, e => match e with
    | .Call (.Attribute a' n apos) es' [] pos => decide (m = .append) && n == "append" && notCall a' && (apos.endLine == pos.line) && decide (es'.length = 1) && chkE T N sc a a' && chkEs T N sc es es'
    | _ => false
  | sc, .lc e tg it ifs vs, ex => match ex with
    | .ListComp e' [⟨tgt, iter, ifs', as⟩] scope _ => decide (as = 0) && chkC N sc scope vs tg it tgt iter && decide (ifs'.length ≤ 1) && chkE T N sc it iter && chkEs T N (relS scope sc) ifs ifs' && chkE T N (relS scope sc) e e'
    | _ => false
  | sc, .dc k v tg it ifs vs, ex => match ex with
    | .DictComp k' v' [⟨tgt, iter, ifs', as⟩] scope _ => decide (as = 0) && chkC N sc scope vs tg it tgt iter && decide (ifs'.length ≤ 1) && chkE T N sc it iter && chkEs T N (relS scope sc) ifs ifs' && chkE T N (relS scope sc) k k' && chkE T N (relS scope sc) v v'
    | _ => false
def chkEs (T : Tb) (N : List Str) : Scope → List Ex → List Expr → Bool
  | _, [], es => es.isEmpty
  | sc, m :: ms, es => match es with
    | e :: r => notStar e && chkE T N sc m e && chkEs T N sc ms r
    | [] => false
def chkO (T : Tb) (N : List Str) : Scope → Option Ex → Option Expr → Bool
  | _, none, e => e.isNone
  | sc, some m, e => match e with
    | some e => chkE T N sc m e
    | none => false
end

/-! ### the context -/
structure Cok (G : Gb) (W : WX) (X : Cx) (T : Tb) (Fs : Fns) (Gs : List D) (sc : Scope) (k : Nat) : Prop where
  hK : G.K = X.K
  nd : X.N.Nodup
  hsc : X.env.scope = sc
  calm : X.calm = true
  room : Room k X.A
  grd : X.A.guards = some []
  tk : Takes X W
  fns : ∀ (f : Nat) (x : Str), T.fns[f]? = some x → X.mg x = some (.ref (G.adr f)) ∧ PySem.W.keepIn X.K (.ref (G.adr f)) = true ∧ ∃ fd ps, FnG X.prog X.w X.K X.mg X.base k (G.adr f) fd ps (spM G (Fs f)) ∧ Binds X.K fd ps []
  gls : ∀ (g : Nat) (x : Str), T.gls[g]? = some x → ∃ d v u, Gs[g]? = some d ∧ (∀ H N, DR G H N v d) ∧ X.mg x = some u ∧ RelV v u
  cls : ∀ (c : Nat) (x : Str), T.cls[c]? = some x → X.mg x = some (.ref (G.cad c))
  blt : ∀ x, T.blt.contains x = true → X.mg x = none
section
variable {G : Gb} {W : WX} {X : Cx} {T : Tb} {Fs : Fns} {Gs : List D} {sc : Scope} {k : Nat}
theorem Cok.un (c : Cok G W X T Fs Gs sc k) : X.A.units + 100 < cLine := by have := c.room.un; omega
theorem Cok.gl (c : Cok G W X T Fs Gs sc k) {x : Str} (h : glo sc x = true) : Gl X x ∧ (x == ("__debug__" : Str)) = false := by
  have h := Bool.and_eq_true_iff.mp h
  refine ⟨?_, by simpa using h.2⟩
  show X.env.scope.names.lookup x = _
  rw [c.hsc]
  exact of_decide_eq_true h.1
theorem Cok.vi (c : Cok G W X T Fs Gs sc k) {x : Str} (h : vis sc x = true) : Vis X.env.scope x ∧ (x == ("__debug__" : Str)) = false ∧ (x == ("__classdict__" : Str)) = false := by
  unfold vis at h
  simp only [Bool.and_eq_true, Bool.or_eq_true, decide_eq_true_eq, Bool.not_eq_true'] at h
  refine ⟨?_, h.2.1, h.2.2⟩
  unfold Vis
  rw [c.hsc]
  rcases h.1 with (h | h) | h
  · exact .inl h
  · exact .inr (.inl h)
  · exact .inr (.inr h)
theorem Cok.blk (c : Cok G W X T Fs Gs sc k) {s : Shared} {H : Hp} {scope : Scope} {C : Addr} {cl : List (Str × Addr)} {fp : List Addr} : Cok G WN (X.blk s H scope (compEnvC scope cl C X.env) fp) T Fs Gs (relS scope sc) k :=
  ⟨c.hK, c.nd, by show relS scope X.env.scope = _; rw [c.hsc], c.calm, c.room, c.grd, fun u s' ⟨_, _, _, _, _, _, _, _, _, _, _, _, _, _, _, _, w⟩ => w.elim, c.fns, c.gls, c.cls, c.blt⟩
theorem blk_stores {s : Shared} {H : Hp} {scope : Scope} {C : Addr} {cl : List (Str × Addr)} {fp : List Addr} : Stores (X.blk s H scope (compEnvC scope cl C X.env) fp) scope := fun x h => by
  have h := Bool.or_eq_true_iff.mp h
  rcases h with h | h
  · have h := beq_iff_eq.mp h
    have q := lookup_relS_keep (sc := X.env.scope) (by decide) h
    exact ⟨.inl q, .inr q⟩
  · have h' := beq_iff_eq.mp h
    exact ⟨.inr (lookup_relS_keep (sc := X.env.scope) (by decide) h'), .inl h⟩

/-! ### lists of expressions -/
inductive Soks (G : Gb) (W : WX) (X : Cx) : List Expr → List Sm → Prop
  | nil : Soks G W X [] []
  | cons {e : Expr} {m : Sm} {p : Bool} {es : List Expr} {ms : List Sm} (h : Sok G W X e m p) (hs : notStar e = true) (r : Soks G W X es ms) : Soks G W X (e :: es) (m :: ms)
theorem star_ok {e : Expr} (h : notStar e = true) (es : List Expr) (env : PySem.Env) : starEach (e :: es) env = (false, eval e env) :: starEach es env := by
  cases e <;> first | rfl | cases h
theorem Soks.pa {es : List Expr} {ms : List Sm} (h : Soks G W X es ms) : PA X es (tAs G W (evAll ms)) := by
  induction h with
  | nil => exact as_nil
  | cons h hs r ih => exact as_cons h.ev ih (star_ok hs _ _)
theorem Soks.plain {es : List Expr} {ms : List Sm} (h : Soks G W X es ms) (pos : Pos) (env : PySem.Env) : (backTo pos (starEach es env)).any (·.1) = false := by
  induction h with
  | nil => rfl
  | cons h hs r ih =>
    rw [star_ok hs]
    unfold backTo at ih ⊢
    rw [List.map_cons, List.any_cons, ih]
    rfl
theorem Soks.head {e : Expr} {es : List Expr} {ms : List Sm} (h : Soks G W X (e :: es) ms) (pos : Pos) (env : PySem.Env) : starEach (e :: es) env = (false, eval e env) :: starEach es env ∧ (backTo pos (starEach es env)).any (·.1) = false := by
  cases h with
  | cons h hs r => exact ⟨star_ok hs _ _, r.plain _ _⟩
theorem Soks.and {es : List Expr} {ms : List Sm} {pos : Pos} (h : Soks G W X es ms) (ne : es ≠ []) : PE X (.BoolOp .And es pos) (tI G W (evAnd ms)) ∧ PW X (.BoolOp .And es pos) (tT G W (tsAnd ms)) := by
  induction h with
  | nil => exact absurd rfl ne
  | cons h hs r ih =>
    cases r with
    | nil => exact ⟨ev_and1 h.ev, ts_and1 h.ts⟩
    | cons h2 hs2 r2 => obtain ⟨i1, i2⟩ := ih (by simp); exact ⟨ev_and h.ev i1, ts_and h.ts i2⟩
theorem Soks.or {es : List Expr} {ms : List Sm} {pos : Pos} (h : Soks G W X es ms) (ne : es ≠ []) : PE X (.BoolOp .Or es pos) (tI G W (evOr ms)) ∧ PW X (.BoolOp .Or es pos) (tT G W (tsOr ms)) := by
  induction h with
  | nil => exact absurd rfl ne
  | cons h hs r ih =>
    cases r with
    | nil => exact ⟨ev_or1 h.ev, ts_or1 h.ts⟩
    | cons h2 hs2 r2 => obtain ⟨i1, i2⟩ := ih (by simp); exact ⟨ev_or h.ev i1, ts_or h.ts i2⟩
theorem PTs_imp {es : List Expr} {t t' : TT} (h : PTs X es t) (f : ∀ σ H Q, t' σ H Q → t σ H Q) : PTs X es t' := ⟨fun p s σ H Q I q => h.run p s σ H Q I (f σ H Q q)⟩
theorem Soks.tests {es : List Expr} {ms : List Sm} (h : Soks G W X es ms) (hl : es.length ≤ 1) : PTs X es (tT G W (tsAll ms)) := by
  cases h with
  | nil => exact PTs_imp pts_nil fun σ H Q ⟨M, ρ, E, S, hE, hS, g⟩ => g H Step.refl hS
  | cons h hs r =>
    cases r with
    | nil => exact PTs_imp (pts_one h.ts) fun _ _ _ h => h
    | cons _ _ _ => simp at hl
end

/-! ### comprehensions -/
structure BlkH (G : Gb) (W : WX) (X : Cx) (tg : Tg) (vs : List Nat) (mi : Sm) (mfs : List Sm) (tgt iter : Expr) (ifs : List Expr) (scope : Scope) : Prop where
  hi : PI X tgt iter (tIt G W mi.it)
  ok : BlkOk X.N X.env.scope scope (ownN X.N vs)
  hsl : ∀ i ∈ tg.slots, i ∈ vs
  hg : ∀ (s : Shared) (H : Hp) (C : Addr) (cl : List (Str × Addr)) (fp : List Addr), PG (X.blk s H scope (compEnvC scope cl C X.env) fp) tgt (tTg G tg)
  ht : ∀ (s : Shared) (H : Hp) (C : Addr) (cl : List (Str × Addr)) (fp : List Addr), PTs (X.blk s H scope (compEnvC scope cl C X.env) fp) ifs (tT G WN (tsAll mfs))
  hs : ∀ x, foldedSetIterable iter X.env x = pure x
theorem fold_ok {e : Expr} (h : notSet e = true) (env : PySem.Env) (x : Value) : foldedSetIterable e env x = pure x := by
  cases e <;> first | rfl | cases h
section
variable {G : Gb} {W : WX} {X : Cx} {T : Tb} {Fs : Fns} {Gs : List D} {sc : Scope} {k : Nat}
theorem blkH {tg : Tg} {vs : List Nat} {it : Ex} {mfs : List Sm} {tgt iter : Expr} {ifs : List Expr} {scope : Scope} (c : Cok G W X T Fs Gs sc k) (h : chkC X.N sc scope vs tg it tgt iter = true) (hl : ifs.length ≤ 1)
    (hi : Sok G W X iter (sem Fs Gs it) (isPair it)) (hf : ∀ (X' : Cx), X'.N = X.N → Cok G WN X' T Fs Gs (relS scope sc) k → Soks G WN X' ifs mfs) : BlkH G W X tg vs (sem Fs Gs it) mfs tgt iter ifs scope := by
  unfold chkC at h
  simp only [Bool.and_eq_true, Bool.or_eq_true, Bool.not_eq_true', List.all_eq_true, List.contains_iff_mem] at h
  obtain ⟨⟨⟨⟨h1, h2⟩, h3⟩, h4⟩, h5⟩ := h
  refine ⟨hi.it tgt fun q => ?_, ?_, h2, fun s H C cl fp => pg_tg (X := (X.blk s H scope (compEnvC scope cl C X.env) fp)) c.hK c.calm c.nd blk_stores tg tgt h3, fun s H C cl fp => (hf (X.blk s H scope (compEnvC scope cl C X.env) fp) rfl c.blk).tests hl, fold_ok h4 _⟩
  · rcases h5 with e | e
    · rw [q] at e; cases e
    · exact e
  · rw [c.hsc]
    exact blkOk_by h1
theorem BlkH.lc {tg : Tg} {vs : List Nat} {mi me : Sm} {mfs : List Sm} {elt tgt iter : Expr} {ifs : List Expr} {scope : Scope} {pos : Pos} (c : Cok G W X T Fs Gs sc k) (b : BlkH G W X tg vs mi mfs tgt iter ifs scope) {p : Bool}
    (he : ∀ (X' : Cx), X'.N = X.N → Cok G WN X' T Fs Gs (relS scope sc) k → Sok G WN X' elt me p) : PE X (.ListComp elt [⟨tgt, iter, ifs, 0⟩] scope pos) (tI G W (lcM mi me mfs tg vs)) :=
  ev_lc c.calm c.nd b.hi b.ok (ownN_2 _ _) b.hsl b.hg b.ht (fun s H C cl fp => (he (X.blk s H scope (compEnvC scope cl C X.env) fp) rfl c.blk).ev) b.hs
theorem BlkH.dc {tg : Tg} {vs : List Nat} {mi mk mv : Sm} {mfs : List Sm} {kx vx tgt iter : Expr} {ifs : List Expr} {scope : Scope} {pos : Pos} (c : Cok G W X T Fs Gs sc k) (b : BlkH G W X tg vs mi mfs tgt iter ifs scope) {p q : Bool}
    (hk : ∀ (X' : Cx), X'.N = X.N → Cok G WN X' T Fs Gs (relS scope sc) k → Sok G WN X' kx mk p) (hv : ∀ (X' : Cx), X'.N = X.N → Cok G WN X' T Fs Gs (relS scope sc) k → Sok G WN X' vx mv q) :
    PE X (.DictComp kx vx [⟨tgt, iter, ifs, 0⟩] scope pos) (tI G W (dcM mi mk mv mfs tg vs)) :=
  ev_dc c.calm c.nd b.hi b.ok (ownN_2 _ _) b.hsl b.hg b.ht (fun s H C cl fp => (hk (X.blk s H scope (compEnvC scope cl C X.env) fp) rfl c.blk).ev) (fun s H C cl fp => (hv (X.blk s H scope (compEnvC scope cl C X.env) fp) rfl c.blk).ev) b.hs
end
end Mi

set_option maxHeartbeats 4000000
/-! an expression that looks like one of the small language does what that says -/
namespace Mi
open PySem PySem.Spec PyProof.Rows L2
theorem and3 {a b c : Bool} (h : (a && b && c) = true) : a = true ∧ b = true ∧ c = true := by
  simp only [Bool.and_eq_true] at h; exact ⟨h.1.1, h.1.2, h.2⟩
theorem and2 {a b : Bool} (h : (a && b) = true) : a = true ∧ b = true := by
  simpa only [Bool.and_eq_true] using h
theorem boot_asked {n : String} (h : asked.contains n = true) : bootBuiltins (Str.ofString n) = some (.type n) ∧ (Str.ofString n : Str) ≠ "__name__" := by
  have h := List.contains_iff_mem.mp h
  unfold asked at h
  simp only [List.mem_cons, List.not_mem_nil, or_false] at h
  rcases h with e | e | e | e | e | e <;> subst e <;> exact ⟨by decide +kernel, by decide +kernel⟩
theorem notE {α : Type} {l : List α} (h : (!l.isEmpty) = true) : l ≠ [] := by
  cases l with
  | nil => cases h
  | cons _ _ => simp
section
variable {G : Gb} {W : WX} {X : Cx} {T : Tb} {Fs : Fns} {Gs : List D} {sc : Scope} {k : Nat}
theorem sok_no {e : Expr} {m : Sm} {p : Bool} (h : PE X e (tI G W m.ev)) (ht : PT X e (tT G W m.ts)) (hi : ∀ E S, m.it E S = .no) : Sok G W X e m p :=
  ⟨h, ht, fun tg _ => PI_imp PI_no fun σ H Q ⟨M, ρ, E, S, hE, hS, g⟩ => by rw [hi] at g; exact g.elim⟩
theorem ts_no {e : Expr} {f : Env → Store → R Bool} (h : ∀ E S, f E S = .no) : PT X e (tT G W f) := PT_imp PT_no fun σ H Q ⟨M, ρ, E, S, hE, hS, g⟩ => by rw [h] at g; exact g.elim
theorem sok_walk {e : Expr} {f : Env → Store → R (List D)} {p : Bool} (h : ∀ tg, (p = true → tupT tg = true) → PI X tg e (tIt G W f)) : Sok G W X e (.walk f) p :=
  ⟨PE_imp PE_no fun σ H Q ⟨M, ρ, E, S, hE, hS, g⟩ => g.elim, ts_no fun _ _ => rfl, h⟩
end
theorem Soks.len {G : Gb} {W : WX} {X : Cx} {es : List Expr} {ms : List Sm} (h : Soks G W X es ms) : ms.length = es.length := by
  induction h with
  | nil => rfl
  | cons h hs r ih => rw [List.length_cons, List.length_cons, ih]
theorem Soks.head2 {G : Gb} {W : WX} {X : Cx} {e e2 : Expr} {es : List Expr} {ms : List Sm} (h : Soks G W X (e :: e2 :: es) ms) (env : PySem.Env) : starEach (e2 :: es) env = (false, eval e2 env) :: starEach es env := by
  cases h with
  | cons h hs r => cases r with
    | cons h2 hs2 r2 => exact star_ok hs2 _ _
theorem Soks.tail {G : Gb} {W : WX} {X : Cx} {e : Expr} {es : List Expr} {m : Sm} {ms : List Sm} (h : Soks G W X (e :: es) (m :: ms)) : Soks G W X es ms := by
  cases h with
  | cons h hs r => exact r
mutual
theorem sokE {G : Gb} {T : Tb} {Fs : Fns} {Gs : List D} {k : Nat} : ∀ (m : Ex) {X : Cx} {W : WX} {sc : Scope} (e : Expr), Cok G W X T Fs Gs sc k → chkE T X.N sc m e = true → Sok G W X e (sem Fs Gs m) (isPair m)
  | .kN, X, W, sc, e, c, h => match e, h with
    | .Constant v _ _, h => by
      have e : v = .none := of_decide_eq_true h
      subst e
      exact sok_v c.hK (ev_k (fun _ _ => .non) pe_non) fun _ => rfl
  | .kB b, X, W, sc, e, c, h => match e, h with
    | .Constant v _ _, h => by
      have e : v = .bool b := of_decide_eq_true h
      subst e
      exact sok_v c.hK (ev_k (fun _ _ => .bl _) pe_bl) fun _ => rfl
  | .kI i, X, W, sc, e, c, h => match e, h with
    | .Constant v _ _, h => by
      have e : v = .int i := of_decide_eq_true h
      subst e
      exact sok_v c.hK (ev_k (fun _ _ => .int _) pe_int) fun _ => rfl
  | .kS s, X, W, sc, e, c, h => match e, h with
    | .Constant v _ _, h => by
      have e : v = .str s := of_decide_eq_true h
      subst e
      exact sok_v c.hK (ev_k (fun _ _ => .str _) pe_str) fun _ => rfl
  | .var i, X, W, sc, e, c, h => match e, h with
    | .Name x _, h => by
      obtain ⟨h1, h2⟩ := and2 h
      obtain ⟨q1, q2, q3⟩ := c.vi h2
      exact sok_v c.hK (ev_var (pe_var (beq_iff_eq.mp h1) q1 q2 q3)) fun _ => rfl
  | .glb g, X, W, sc, e, c, h => match e, h with
    | .Name x _, h => by
      obtain ⟨h1, h2⟩ := and2 h
      obtain ⟨q1, q2⟩ := c.gl h2
      obtain ⟨d, v, u, k1, k2, k3, k4⟩ := c.gls g x (beq_iff_eq.mp h1)
      exact sok_v c.hK (ev_glb k1 k2 (pe_glob q1 k3 k4 q2)) fun _ => rfl
  | .fnv f, X, W, sc, e, c, h => match e, h with
    | .Name x _, h => by
      obtain ⟨h1, h2⟩ := and2 h
      obtain ⟨q1, q2⟩ := c.gl h2
      exact sok_v c.hK (ev_k (fun _ _ => .fn _) (pe_glob q1 (c.fns f x (beq_iff_eq.mp h1)).1 rfl q2)) fun _ => rfl
  | .typ n, X, W, sc, e, c, h => match e, h with
    | .Name x _, h => by
      obtain ⟨h, h4⟩ := and2 h
      obtain ⟨h1, h2, h3⟩ := and3 h
      obtain ⟨q1, q2⟩ := c.gl h4
      have e := beq_iff_eq.mp h1
      obtain ⟨b1, b2⟩ := boot_asked h2
      exact sok_v c.hK (ev_k (fun _ _ => .ty n) (pe_bltn q1 (c.blt x h3) (by rw [e]; exact b1) rfl (by rw [e]; exact b2) q2)) fun _ => rfl
  | .clsv i, X, W, sc, e, c, h => match e, h with
    | .Name x _, h => by
      obtain ⟨h1, h2⟩ := and2 h
      obtain ⟨q1, q2⟩ := c.gl h2
      exact sok_v c.hK (ev_k (fun _ _ => .cls _) (pe_glob q1 (c.cls i x (beq_iff_eq.mp h1)) rfl q2)) fun _ => rfl
  | .neg a, X, W, sc, e, c, h => match e, h with
    | .UnaryOp op a' _, h => by
      obtain ⟨h1, h2⟩ := and2 h
      have e := of_decide_eq_true h1
      subst e
      exact sok_v c.hK (ev_neg (sokE a a' c h2).ev) fun _ => rfl
  | .bin op a b, X, W, sc, e, c, h => match e, h with
    | .BinOp a' op' b' _, h => by
      obtain ⟨h1, h2, h3⟩ := and3 h
      have e := of_decide_eq_true h1
      subst e
      exact sok_v c.hK (ev_bin c.hK (sokE a a' c h2).ev (sokE b b' c h3).ev) fun _ => rfl
  | .cmp op a b, X, W, sc, e, c, h => match e, h with
    | .Compare a' [op'] [b'] _, h => by
      obtain ⟨h, h4⟩ := and2 h
      obtain ⟨h1, h2, h3⟩ := and3 h
      have e := of_decide_eq_true h1
      subst e
      have m : behindInMarks op b' = false := by simpa using h2
      exact ⟨ev_cmp c.hK c.un m (sokE a a' c h3).ev (sokE b b' c h4).ev, ts_cmp c.hK c.un m (sokE a a' c h3).ev (sokE b b' c h4).ev, fun tg _ => pi_v c.hK (ev_cmp c.hK c.un m (sokE a a' c h3).ev (sokE b b' c h4).ev) tg⟩
  | .chn o1 o2 x y z, X, W, sc, e, c, h => match e, h with
    | .Compare x' [p1, p2] [y', z'] _, h => by
      obtain ⟨h, h6⟩ := and2 h
      obtain ⟨h, h5⟩ := and2 h
      obtain ⟨h, h4⟩ := and2 h
      obtain ⟨h1, h2, h3⟩ := and3 h
      have e := of_decide_eq_true h1
      subst e
      have e := of_decide_eq_true h2
      subst e
      have m : lastMarks [o1, o2] [y', z'] = false := by simpa using h3
      have ev := ev_chn (pos := by assumption) c.hK c.un m (sokE x x' c h4).ev (sokE y y' c h5).ev (sokE z z' c h6).ev
      exact ⟨ev, ts_chn c.hK c.un m (sokE x x' c h4).ev (sokE y y' c h5).ev (sokE z z' c h6).ev, fun tg _ => pi_v c.hK ev tg⟩
  | .andE es, X, W, sc, e, c, h => match e, h with
    | .BoolOp op es' _, h => by
      obtain ⟨h1, h2, h3⟩ := and3 h
      have e := of_decide_eq_true h1
      subst e
      obtain ⟨q1, q2⟩ := (sokEs es es' c h3).and (notE h2)
      exact sok_no q1 q2.pt fun _ _ => rfl
  | .orE es, X, W, sc, e, c, h => match e, h with
    | .BoolOp op es' _, h => by
      obtain ⟨h1, h2, h3⟩ := and3 h
      have e := of_decide_eq_true h1
      subst e
      obtain ⟨q1, q2⟩ := (sokEs es es' c h3).or (notE h2)
      exact sok_no q1 q2.pt fun _ _ => rfl
  | .notE a, X, W, sc, e, c, h => match e, h with
    | .UnaryOp op a' _, h => by
      obtain ⟨h1, h2⟩ := and2 h
      have e := of_decide_eq_true h1
      subst e
      exact sok_no (ev_not (sokE a a' c h2).ev) (ts_not (sokE a a' c h2).ts) fun _ _ => rfl
  | .ife t a b, X, W, sc, e, c, h => match e, h with
    | .IfExp t' a' b' _, h => by
      obtain ⟨h1, h2, h3⟩ := and3 h
      have ev := ev_ife (pos := by assumption) (sokE t t' c h1).ts (sokE a a' c h2).ev (sokE b b' c h3).ev
      exact ⟨ev, ts_no fun _ _ => rfl, fun tg _ => pi_v c.hK ev tg⟩
  | .tup es, X, W, sc, e, c, h => match e, h with
    | .Tuple es' _ _, h => sok_v c.hK (ev_tup (sokEs es es' c h).pa) fun _ => rfl
  | .lst es, X, W, sc, e, c, h => match e, h with
    | .List es' _, h => sok_v c.hK (ev_lst (sokEs es es' c h).pa) fun _ => rfl
  | .ix a i, X, W, sc, e, c, h => match e, h with
    | .Subscript a' i' _, h => by
      obtain ⟨h1, h2, h3⟩ := and3 h
      refine sok_v c.hK (ev_ix c.hK c.un (fun o i => ?_) (sokE a a' c h2).ev (sokE i i' c h3).ev) fun _ => rfl
      cases i' <;> first | rfl | cases h1
  | .slc a lo hi, X, W, sc, e, c, h => match e, h with
    | .Subscript a' (.Slice lo' hi' none _) _, h => by
      obtain ⟨h1, h2, h3⟩ := and3 h
      exact sok_v c.hK (ev_slc c.hK (sokE a a' c h1).ev (sokO lo lo' c h2) (sokO hi hi' c h3)) fun _ => rfl
  | .call f es, X, W, sc, e, c, h => match e, h with
    | .Call (.Name x _) es' [] cp, h => by
      obtain ⟨h1, h2, h3⟩ := and3 h
      obtain ⟨q1, q2⟩ := c.gl h2
      have s := sokEs es es' c h3
      obtain ⟨m1, m2, fd, ps, F, B⟩ := c.fns f x (beq_iff_eq.mp h1)
      refine sok_v c.hK (ev_call F c.room c.grd B c.tk q1 m1 m2 q2 s.pa (fun z => ?_) fun a r z => ?_) fun _ => rfl
      · subst z; cases es with
        | nil => rfl
        | cons _ _ => cases h3
      · subst z; exact s.head _ _
  | .bi b es, X, W, sc, e, c, h => match e, h with
    | .Call (.Name x _) es' [] cp, h => by
      obtain ⟨h, h5⟩ := and2 h
      obtain ⟨h, h4⟩ := and2 h
      obtain ⟨h1, h2, h3⟩ := and3 h
      obtain ⟨q1, q2⟩ := c.gl h3
      have s := sokEs es es' c h5
      cases es' with
      | nil => cases h4
      | cons a r =>
        obtain ⟨s1, s2⟩ := s.head cp X.env
        exact sok_v c.hK (ev_bi (beq_iff_eq.mp h1) c.hK c.calm c.un c.grd q1 (c.blt x h2) s.pa q2 s1 s2) fun _ => rfl
  | .rng es, X, W, sc, e, c, h => match e, h with
    | .Call (.Name x _) es' [] cp, h => by
      obtain ⟨h, h5⟩ := and2 h
      obtain ⟨h, h4⟩ := and2 h
      obtain ⟨h1, h2, h3⟩ := and3 h
      obtain ⟨q1, q2⟩ := c.gl h3
      have s := sokEs es es' c h5
      have e := beq_iff_eq.mp h1
      subst e
      have sl := s.len
      refine sok_walk fun tg _ => ?_
      simp only [Bool.or_eq_true, decide_eq_true_eq] at h4
      rcases h4 with h4 | h4
      · match es', h4, s, sl with
        | [a], _, s, sl => exact PI_imp (pi_range1 q1 (c.blt _ h2) s.pa (s.head cp X.env).1) (imp_rng1 sl)
      · match es', h4, s, sl with
        | [a, b], _, s, sl => exact PI_imp (pi_range2 q1 (c.blt _ h2) s.pa (by rw [(s.head cp X.env).1, s.head2 X.env]; rfl) (by rw [s.head2 X.env]; rfl)) (imp_rng2 sl)
  | .zip es, X, W, sc, e, c, h => match e, h with
    | .Call (.Name x _) es' [] cp, h => by
      obtain ⟨h, h5⟩ := and2 h
      obtain ⟨h, h4⟩ := and2 h
      obtain ⟨h1, h2, h3⟩ := and3 h
      obtain ⟨q1, q2⟩ := c.gl h3
      have s := sokEs es es' c h5
      have e := beq_iff_eq.mp h1
      subst e
      have h4 := of_decide_eq_true h4
      refine sok_walk fun tg ht => ?_
      have ht := ht rfl
      match es', h4, s with
      | [a, b], _, s =>
        cases tg with
        | Tuple ts kk p => exact PI_imp (pi_zipB q1 (c.blt _ h2) s.pa (s.head cp X.env).1 (s.head cp X.env).2) (c.hK ▸ imp_zip)
        | _ => cases ht
  | .enum es, X, W, sc, e, c, h => match e, h with
    | .Call (.Name x _) es' [] cp, h => by
      obtain ⟨h, h5⟩ := and2 h
      obtain ⟨h, h4⟩ := and2 h
      obtain ⟨h1, h2, h3⟩ := and3 h
      obtain ⟨q1, q2⟩ := c.gl h3
      have s := sokEs es es' c h5
      have e := beq_iff_eq.mp h1
      subst e
      have h4 := of_decide_eq_true h4
      refine sok_walk fun tg ht => ?_
      have ht := ht rfl
      match es', h4, s with
      | [a], _, s =>
        cases tg with
        | Tuple ts kk p => exact PI_imp (pi_enum q1 (c.blt _ h2) (PA_sz s.pa) (s.head cp X.env).1) (c.hK ▸ imp_enum)
        | _ => cases ht
  | .mt m a es, X, W, sc, e, c, h => match e, h with
    | .Call (.Attribute a' n apos) es' [] pos, h => by
      obtain ⟨h, h7⟩ := and2 h
      obtain ⟨h, h6⟩ := and2 h
      obtain ⟨h, h5⟩ := and2 h
      obtain ⟨h, h4⟩ := and2 h
      obtain ⟨h1, h2, h3⟩ := and3 h
      have e := of_decide_eq_true h1
      subst e
      have e := beq_iff_eq.mp h2
      subst e
      have s := sokEs es es' c h7
      have h5 := of_decide_eq_true h5
      match es', h5, s with
      | [b], _, s =>
        refine sok_v c.hK (ev_app c.hK (sokE a a' c h6).ev s.pa ?_ ?_ h4 (s.head pos X.env).1 (s.head pos X.env).2) fun _ => rfl
        · cases a' <;> first | rfl | cases h3
        · rw [(s.head pos X.env).1]; rfl
  | .lc e tg it ifs vs, X, W, sc, ex, c, h => match ex, h with
    | .ListComp e' [⟨tgt, iter, ifs', as⟩] scope _, h => by
      obtain ⟨h, h6⟩ := and2 h
      obtain ⟨h, h5⟩ := and2 h
      obtain ⟨h, h4⟩ := and2 h
      obtain ⟨h1, h2, h3⟩ := and3 h
      have z := of_decide_eq_true h1
      subst z
      have b := blkH c h2 (of_decide_eq_true h3) (sokE it iter c h4) fun X' hN c' => sokEs ifs ifs' c' (by rw [hN]; exact h5)
      exact sok_v c.hK (b.lc c fun X' hN c' => sokE e e' c' (by rw [hN]; exact h6)) fun _ => rfl
  | .dc kx vx tg it ifs vs, X, W, sc, ex, c, h => match ex, h with
    | .DictComp k' v' [⟨tgt, iter, ifs', as⟩] scope _, h => by
      obtain ⟨h, h7⟩ := and2 h
      obtain ⟨h, h6⟩ := and2 h
      obtain ⟨h, h5⟩ := and2 h
      obtain ⟨h, h4⟩ := and2 h
      obtain ⟨h1, h2, h3⟩ := and3 h
      have z := of_decide_eq_true h1
      subst z
      have b := blkH c h2 (of_decide_eq_true h3) (sokE it iter c h4) fun X' hN c' => sokEs ifs ifs' c' (by rw [hN]; exact h5)
      exact sok_v c.hK (b.dc c (fun X' hN c' => sokE kx k' c' (by rw [hN]; exact h6)) fun X' hN c' => sokE vx v' c' (by rw [hN]; exact h7)) fun _ => rfl
theorem sokEs {G : Gb} {T : Tb} {Fs : Fns} {Gs : List D} {k : Nat} : ∀ (ms : List Ex) {X : Cx} {W : WX} {sc : Scope} (es : List Expr), Cok G W X T Fs Gs sc k → chkEs T X.N sc ms es = true → Soks G W X es (sems Fs Gs ms)
  | [], X, W, sc, es, c, h => by
    cases es with
    | nil => exact .nil
    | cons _ _ => cases h
  | m :: ms, X, W, sc, es, c, h => match es, h with
    | e :: r, h => by
      obtain ⟨h1, h2, h3⟩ := and3 h
      exact .cons (sokE m e c h2) h1 (sokEs ms r c h3)
theorem sokO {G : Gb} {T : Tb} {Fs : Fns} {Gs : List D} {k : Nat} : ∀ (m : Option Ex) {X : Cx} {W : WX} {sc : Scope} (e : Option Expr), Cok G W X T Fs Gs sc k → chkO T X.N sc m e = true → PO X e (tPt (G := G) (W := W) (evPart (semo Fs Gs m)))
  | none, X, W, sc, e, c, h => by
    cases e with
    | none => exact pt_none'
    | some _ => cases h
  | some m, X, W, sc, e, c, h => match e, h with
    | some e, h => pt_some' (sokE m e c h).ev
end
end Mi

set_option maxHeartbeats 4000000
/-! does a statement of the text look like one of the small language; then it does what that says -/
namespace Mi
open PySem PySem.Spec PyProof.Rows L2
def notComp : Expr → Bool
  | .ListComp _ _ _ _ => false
  | .SetComp _ _ _ _ => false
  | .DictComp _ _ _ _ _ => false
  | _ => true
/-- x = [..], where the value is stored ahead of the end of the comprehension -/
def swT (sc scope : Scope) (x : Str) (px pos : Pos) : Bool :=
  decide (sc.names.lookup x = some .local) && (px.line == pos.line) && !(scope.names.any fun (n, k) => n == x && (k == .local || k == .cell))
def isFrz : Sx → Bool
  | .frz _ => true
  | _ => false
section
variable (T : Tb) (N : List Str) (sc : Scope)
/-- x = e -/
def chkA (i : Nat) (m : Ex) : Stmt → Bool
  | .Assign [.Name x px] v _ => N[i]? == some x && sto sc x && chkE T N sc m v && (match v with
    | .ListComp _ _ scope pos => swT sc scope x px pos || decide (sc.names.lookup x = some .cell)
    | .DictComp _ _ _ scope pos => swT sc scope x px pos || decide (sc.names.lookup x = some .cell)
    | .SetComp _ _ _ _ => false
    | _ => true)
  | _ => false
def locN (x : Str) : Bool := decide (sc.names.lookup x = some .local)
def notTup : Expr → Bool
  | .Tuple _ _ _ => false
  | _ => true
/-- a, b = x, y; a, b, c = x, y, z: stored from the right -/
def parOk (ts vs : List Expr) : Bool := match ts with
  | [.Name x px, .Name y py] => locN sc x && locN sc y && (py.line == px.line) && !(x == y) && decide (vs.length = 2) && vs.all notStar && !vs.all (foldedForSure 8) && !vs.all (constantsAlone 8)
  | [.Name x px, .Name y py, .Name z pz] => locN sc x && locN sc y && locN sc z && (py.line == px.line) && (pz.line == px.line) && !(x == y) && !(x == z) && !(y == z) && decide (vs.length = 3) && vs.all notStar && !vs.all (foldedForSure 8) && !vs.all (constantsAlone 8)
  | _ => false
def chkPar (ts : List Tg) (m : Ex) (es : List Expr) (v : Expr) : Bool := match ts with
  | [.nm _, .nm _] => (match m with
    | .tup _ => (match v with
      | .Tuple vs _ _ => decide (es.length = 2) && parOk sc es vs
      | _ => false)
    | _ => false)
  | [.nm _, .nm _, .nm _] => (match m with
    | .tup _ => (match v with
      | .Tuple vs _ _ => decide (es.length = 3) && parOk sc es vs
      | _ => false)
    | _ => false)
  | _ => false
/-- a target that is no plain local name -/
def offLoc (es : List Expr) : Bool := es.any fun e => match e with
  | .Name x _ => !decide (sc.names.lookup x = some .local)
  | _ => true
def chkP (ts : List Tg) (m : Ex) : Stmt → Bool
  | .Assign [.Tuple es _ _] v _ => chkE T N sc m v && chkTs N sc ts es && (notTup v || decide (4 ≤ es.length) || offLoc sc es || chkPar sc ts m es v)
  | _ => false
/-- o[i] = e -/
def chkI (o i e : Ex) : Stmt → Bool
  | .Assign [.Subscript o' i' _] v _ => notSlice i' && chkE T N sc o o' && chkE T N sc i i' && chkE T N sc e v
  | _ => false
mutual
def chkS : Sx → Stmt → Bool
  | .asg i e, st => chkA T N sc i e st
  | .asgN i e, st => chkA T N sc i e st
  | .asgS ts e, st => chkP T N sc ts e st
  | .setix o i e, st => chkI T N sc o i e st
  | .ex e, st => match st with
    | .Expr e' _ => notComp e' && chkE T N sc e e'
    | _ => false
  | .ret e, st => match st with
    | .Return (some e') _ => chkE T N sc e e'
    | _ => false
  | .retN, st => match st with
    | .Return none _ => true
    | _ => false
  | .iff t a b, st => match st with
    | .If t' a' b' _ => chkE T N sc t t' && chkB a a' && chkB b b'
    | _ => false
  | .whl t b, st => match st with
    | .While t' b' [] _ => chkE T N sc t t' && chkB b b'
    | _ => false
  | .for tg it b, st => match st with
    | .For tg' it' b' [] _ => chkT N sc tg tg' && notSet it' && (!isPair it || tupT tg') && chkE T N sc it it' && chkB b b'
    | _ => false
  | .brk, st => match st with
    | .Break _ => true
    | _ => false
  | .cont, st => match st with
    | .Continue _ => true
    | _ => false
  | .pass, st => match st with
    | .Pass _ => true
    | _ => false
  | .raise _ _, _ => true
  | .frz _, _ => false
def chkB : List Sx → List Stmt → Bool
  | [], ss => ss.isEmpty
  | s :: r, ss => if isFrz s then chkB r ss else match ss with
    | st :: ss => chkS s st && chkB r ss
    | [] => false
end
end

structure Cst (G : Gb) (W : WX) (X : Cx) (T : Tb) (Fs : Fns) (Gs : List D) (sc : Scope) (k : Nat) : Prop where
  c : Cok G W X T Fs Gs sc k
  st : Stores X sc
  kf : X.env.scope.kind = .function
  hp : PassesOwn (model X.prog X.w) X.A X.env X.xe
section
variable {G : Gb} {W : WX} {X : Cx} {T : Tb} {Fs : Fns} {Gs : List D} {sc : Scope} {k : Nat}
theorem sw_false {v : Expr} (h : notComp v = true) (t : Option Expr) (l : Nat) (env : PySem.Env) : swapsWith v t l env = pure false := by
  cases v <;> first | rfl | cases h
theorem sw_true' {v : Expr} {scope : Scope} {pos px : Pos} {x : Str} {l : Nat} {env : PySem.Env} (hv : (∃ e gs, v = .ListComp e gs scope pos) ∨ ∃ a b gs, v = .DictComp a b gs scope pos) (hk : env.scope.kind = .function) (hsc : env.scope = sc) (h : swT sc scope x px pos = true) : swapsWith v (some (.Name x px)) l env = pure true := by
  unfold swT at h
  obtain ⟨h1, h2, h3⟩ := and3 h
  have ky : env.kindOf x = some .local := by show env.scope.names.lookup x = _; rw [hsc]; exact of_decide_eq_true h1
  have hb : env.blockKind = .function := by unfold Env.blockKind; rw [hk]; rfl
  have h3 : (scope.names.any fun (n, k) => n == x && (k == .local || k == .cell)) = false := by simpa using h3
  rcases hv with ⟨e, gs, rfl⟩ | ⟨a, b, gs, rfl⟩
  · unfold swapsWith
    simp only [hb, ky, h3, Expr.pos, h2]
    rfl
  · unfold swapsWith
    simp only [hb, ky, h3, Expr.pos, h2]
    rfl
theorem sw_cell {v : Expr} {x : Str} {px : Pos} {l : Nat} {env : PySem.Env} (h : env.scope.names.lookup x = some .cell) (hs : ∀ e gs sc p, v ≠ .SetComp e gs sc p) : swapsWith v (some (.Name x px)) l env = pure false := by
  have ky : env.kindOf x = some .cell := h
  have b : (env.kindOf x == some NameKind.local) = false := by rw [ky]; rfl
  cases v <;> first | rfl | exact absurd rfl (hs _ _ _ _) | (unfold swapsWith; simp only [b, Bool.and_false, Bool.false_and])
/-- x = {..: ..} on one line -/
theorem ps_dc {i : Nat} {x : Str} {px : Pos} {kx vx tg iter : Expr} {ifs : List Expr} {scope : Scope} {own : List (Str × Nat)} {pos spos : Pos} {wi : TI} {g : TG} {tt : TT} {tk tv : TE} (hc : X.calm = true) (hN : X.N.Nodup) (hx : X.N[i]? = some x) (hl : X.env.scope.names.lookup x = some .local)
    (hsw : swapsWith (.DictComp kx vx [⟨tg, iter, ifs, 0⟩] scope pos) (some (.Name x px)) spos.line X.env = pure true) (hi : PI X tg iter wi) (ok : BlkOk X.N X.env.scope scope own)
    (hg : ∀ (s : Shared) (H : Hp) (C : Addr) (cl : List (Str × Addr)) (fp : List Addr), PG (X.blk s H scope (compEnvC scope cl C X.env) fp) tg g)
    (ht : ∀ (s : Shared) (H : Hp) (C : Addr) (cl : List (Str × Addr)) (fp : List Addr), PTs (X.blk s H scope (compEnvC scope cl C X.env) fp) ifs tt)
    (hk : ∀ (s : Shared) (H : Hp) (C : Addr) (cl : List (Str × Addr)) (fp : List Addr), PE (X.blk s H scope (compEnvC scope cl C X.env) fp) kx tk)
    (hv : ∀ (s : Shared) (H : Hp) (C : Addr) (cl : List (Str × Addr)) (fp : List Addr), PE (X.blk s H scope (compEnvC scope cl C X.env) fp) vx tv) (hs : ∀ y, foldedSetIterable iter X.env y = pure y) :
    PS X (.Assign [.Name x px] (.DictComp kx vx [⟨tg, iter, ifs, 0⟩] scope pos) spos) (tAsg (tDc wi g tt tk tv (own.map (·.2))) (gName i)) := by
  refine ⟨fun pins s σ H D I h => ?_⟩
  rw [exec_Assign_Name_used _ _ _ _ hsw]
  refine wpAny_bind (wpAny_standAt (wpAny_bind ?_))
  show wpAny _ X.A (comprehension (.DictComp kx vx [⟨tg, iter, ifs, 0⟩] scope pos) scope X.env (firstIterPos [⟨tg, iter, ifs, 0⟩] pos) newDict false (eval iter X.env) (some (assign (.Name x px) X.env)) >>= fun _ => pure ()) _ _ s
  have h : tDc wi g tt tk tv (own.map (·.2)) σ H (fun y H1 => gName i y σ H1 D.nx) := h
  refine wpAny_bind (thn (dc_core (Qf := fun _ s' => SP X pins D .next s') hc hN I hi ok hg ht hk hv hs h fun L C s' m H' I' q hn f => ?_) fun _ s' hq => wpAny_pure (wpAny_pure hq))
  show wpAny _ _ (assign (.Name x px) X.env (.ref L)) _ _ _
  refine wpAny_assign_Name (store_ok2 (v := V.ref L) I' hN hx (.inl hl) rfl (fun s2 I2 w => ?_) (.inr hl))
  obtain ⟨b, sb, hb⟩ := w
  obtain ⟨f0, f1, f2, f3, f4, f5⟩ := f
  have ne : C ≠ b := hb.elim (fun z => by rw [z]; exact f1) fun z e => f4 x b z e.symm
  exact ⟨m, hn.sameBut sb ne, fun h3 sb3 => ⟨_, H', I2.turned (t' := s2.toks) (fun c o hc' e => (sb3.2 c hc').trans e) f0 f1 f3 f4 f5, q⟩⟩
theorem asgName (c : Cst G W X T Fs Gs sc k) (i : Nat) (m : Ex) (st : Stmt) (h : chkA T X.N sc i m st = true) : PS X st (tAsg (tI G W (sem Fs Gs m).ev) (gName i)) := by
  unfold chkA at h
  split at h
  · rename_i x px v spos
    obtain ⟨h, h4⟩ := and2 h
    obtain ⟨h1, h2, h3⟩ := and3 h
    obtain ⟨s1, s2⟩ := c.st x h2
    have h1 := beq_iff_eq.mp h1
    by_cases nc : notComp v = true
    · exact ps_set c.c.nd h1 s1 (sokE m v c.c h3).ev (sw_false nc _ _ _) s2
    have hsc := c.c.hsc
    by_cases cl : sc.names.lookup x = some .cell ∧ ∀ e gs sc p, v ≠ .SetComp e gs sc p
    · exact ps_set c.c.nd h1 s1 (sokE m v c.c h3).ev (sw_cell (by rw [hsc]; exact cl.1) cl.2) s2
    · cases v with
      | ListComp elt gs scope pos =>
        have h4 : swT sc scope x px pos = true := by
          rcases Bool.or_eq_true_iff.mp h4 with q | q
          · exact q
          · exact absurd ⟨of_decide_eq_true q, fun _ _ _ _ z => by cases z⟩ cl
        cases m with
        | lc e tg it ifs vs =>
          match gs, h3, h4 with
          | [⟨tgt, iter, ifs', as⟩], h3, h4 =>
            obtain ⟨h3, h36⟩ := and2 h3
            obtain ⟨h3, h35⟩ := and2 h3
            obtain ⟨h3, h34⟩ := and2 h3
            obtain ⟨h31, h32, h33⟩ := and3 h3
            have z := of_decide_eq_true h31
            subst z
            have b := blkH c.c h32 (of_decide_eq_true h33) (sokE it iter c.c h34) fun X' hN c' => sokEs ifs ifs' c' (by rw [hN]; exact h35)
            have hl : X.env.scope.names.lookup x = some .local := by
              rw [c.c.hsc]
              have q : swT sc scope x px pos = true := h4
              unfold swT at q
              exact of_decide_eq_true (and3 q).1
            have ps := ps_setLc (py := px) (spos := spos) (pos := pos) c.c.calm c.c.nd h1 hl (sw_true' (.inl ⟨_, _, rfl⟩) c.kf c.c.hsc h4) b.hi b.ok b.hg b.ht (fun s H C cl fp => (sokE (X := X.blk s H scope (compEnvC scope cl C X.env) fp) e elt c.c.blk h36).ev) b.hs
            rw [ownN_2] at ps
            exact PS_imp ps fun D σ H h => imp_lc b.hsl σ H _ h
        | _ => cases h3
      | DictComp kx vx gs scope pos =>
        have h4 : swT sc scope x px pos = true := by
          rcases Bool.or_eq_true_iff.mp h4 with q | q
          · exact q
          · exact absurd ⟨of_decide_eq_true q, fun _ _ _ _ z => by cases z⟩ cl
        cases m with
        | dc k' v' tg it ifs vs =>
          match gs, h3, h4 with
          | [⟨tgt, iter, ifs', as⟩], h3, h4 =>
            obtain ⟨h3, h37⟩ := and2 h3
            obtain ⟨h3, h36⟩ := and2 h3
            obtain ⟨h3, h35⟩ := and2 h3
            obtain ⟨h3, h34⟩ := and2 h3
            obtain ⟨h31, h32, h33⟩ := and3 h3
            have z := of_decide_eq_true h31
            subst z
            have b := blkH c.c h32 (of_decide_eq_true h33) (sokE it iter c.c h34) fun X' hN c' => sokEs ifs ifs' c' (by rw [hN]; exact h35)
            have hl : X.env.scope.names.lookup x = some .local := by
              rw [c.c.hsc]
              have q : swT sc scope x px pos = true := h4
              unfold swT at q
              exact of_decide_eq_true (and3 q).1
            have ps := ps_dc (px := px) (spos := spos) (pos := pos) c.c.calm c.c.nd h1 hl (sw_true' (.inr ⟨_, _, _, rfl⟩) c.kf c.c.hsc h4) b.hi b.ok b.hg b.ht (fun s H C cl fp => (sokE (X := X.blk s H scope (compEnvC scope cl C X.env) fp) k' kx c.c.blk h36).ev)
              (fun s H C cl fp => (sokE (X := X.blk s H scope (compEnvC scope cl C X.env) fp) v' vx c.c.blk h37).ev) b.hs
            rw [ownN_2] at ps
            exact PS_imp ps fun D σ H h => imp_dc b.hsl σ H _ h
        | _ => cases h3
      | SetComp _ _ _ _ => cases h4
      | _ => exact absurd rfl nc
  · cases h
end
end Mi

set_option maxHeartbeats 4000000
/-! statements that look like the small language's do what that says -/
namespace Mi
open PySem PySem.Spec PyProof.Rows L2
section
variable {G : Gb} {W : WX} {X : Cx} {T : Tb} {Fs : Fns} {Gs : List D} {sc : Scope} {k : Nat}
theorem swap2 {x y : Str} {px py pt : Pos} {kt k2 : Nat} {pt2 : Pos} {vs : List Expr} {env : PySem.Env} (hk : env.scope.kind = .function) (h : parOk env.scope [.Name x px, .Name y py] vs = true) :
    swappedStores [.Tuple [.Name x px, .Name y py] kt pt] (.Tuple vs k2 pt2) env = pure (some [x, y]) ∧ vs.length = 2 ∧ env.scope.names.lookup x = some .local ∧ env.scope.names.lookup y = some .local := by
  unfold parOk locN at h
  simp only [Bool.and_eq_true, decide_eq_true_eq, Bool.not_eq_true'] at h
  obtain ⟨⟨⟨⟨⟨⟨⟨h1, h2⟩, h3⟩, h4⟩, h5⟩, h6⟩, h7⟩, h8⟩ := h
  have hb : env.blockKind = .function := by unfold Env.blockKind; rw [hk]; rfl
  have kx : env.kindOf x = some .local := h1
  have ky : env.kindOf y = some .local := h2
  have ne : (y == x) = false := by rw [Bool.eq_false_iff] at h4 ⊢; intro z; exact h4 (by rw [beq_iff_eq] at z ⊢; exact z.symm)
  refine ⟨?_, h5, h1, h2⟩
  have e3 : py.line = px.line := beq_iff_eq.mp h3
  have ns : ∀ e ∈ vs, notStar e = true := List.all_eq_true.mp h6
  unfold swappedStores
  simp only [List.length_cons, List.length_nil, h5, hb, h7, h8, kx, ky, e3, List.filterMap_cons, List.filterMap_nil, List.head?_cons, Option.map_some, Option.getD_some, Expr.pos, beq_self_eq_true, Bool.and_self, if_true, List.eraseDups_cons, ne, List.filter_cons, List.filter_nil]
  simp [ne]
  rw [if_neg (by rintro ⟨e, he, hm⟩; have q := ns e he; cases e <;> first | (cases hm; done) | (cases q; done))]
  rfl
theorem swap3 {x y z : Str} {px py pz pt : Pos} {kt k2 : Nat} {pt2 : Pos} {vs : List Expr} {env : PySem.Env} (hk : env.scope.kind = .function) (h : parOk env.scope [.Name x px, .Name y py, .Name z pz] vs = true) :
    swappedStores [.Tuple [.Name x px, .Name y py, .Name z pz] kt pt] (.Tuple vs k2 pt2) env = pure (some [x, y, z]) ∧ vs.length = 3 ∧ env.scope.names.lookup x = some .local ∧ env.scope.names.lookup y = some .local ∧ env.scope.names.lookup z = some .local := by
  unfold parOk locN at h
  simp only [Bool.and_eq_true, decide_eq_true_eq, Bool.not_eq_true'] at h
  obtain ⟨⟨⟨⟨⟨⟨⟨⟨⟨⟨⟨h1, h2⟩, h2z⟩, h3⟩, h3z⟩, h4⟩, h4b⟩, h4c⟩, h5⟩, h6⟩, h7⟩, h8⟩ := h
  have hb : env.blockKind = .function := by unfold Env.blockKind; rw [hk]; rfl
  have kx : env.kindOf x = some .local := h1
  have ky : env.kindOf y = some .local := h2
  have kz : env.kindOf z = some .local := h2z
  have flip : ∀ {a b : Str}, (a == b) = false → (b == a) = false := fun h => by rw [Bool.eq_false_iff] at h ⊢; intro z; exact h (by rw [beq_iff_eq] at z ⊢; exact z.symm)
  have n1 := flip h4
  have n2 := flip h4b
  have n3 := flip h4c
  refine ⟨?_, h5, h1, h2, h2z⟩
  have e3 : py.line = px.line := beq_iff_eq.mp h3
  have e4 : pz.line = px.line := beq_iff_eq.mp h3z
  have ns : ∀ e ∈ vs, notStar e = true := List.all_eq_true.mp h6
  unfold swappedStores
  simp only [List.length_cons, List.length_nil, h5, hb, h7, h8, kx, ky, kz, e3, e4, List.filterMap_cons, List.filterMap_nil, List.head?_cons, Option.map_some, Option.getD_some, Expr.pos, beq_self_eq_true, Bool.and_self, if_true, List.eraseDups_cons, n1, n2, n3, List.filter_cons, List.filter_nil]
  have e5 : [y, z].eraseDups.length = 2 := by rw [List.eraseDups_cons]; simp [n3]; rfl
  simp [n1, n2, n3]
  rw [if_neg (by rintro ⟨e, he, hm⟩; have q := ns e he; cases e <;> first | (cases hm; done) | (cases q; done)), if_pos e5]
theorem swap4 {ts vs : List Expr} {kt k2 : Nat} {pt pt2 : Pos} {env : PySem.Env} (h : 4 ≤ ts.length) : swappedStores [.Tuple ts kt pt] (.Tuple vs k2 pt2) env = pure none := by
  have e2 : (ts.length == 2) = false := by rw [beq_eq_false_iff_ne]; omega
  have e3 : (ts.length == 3) = false := by rw [beq_eq_false_iff_ne]; omega
  unfold swappedStores
  simp only [e2, e3]
  rfl
theorem fm_lt {α β : Type} {f : α → Option β} : ∀ {l : List α}, (∃ e ∈ l, f e = none) → (l.filterMap f).length < l.length
  | [], ⟨e, h, _⟩ => nomatch h
  | a :: l, ⟨e, h, q⟩ => by
    have le := List.length_filterMap_le f l
    cases z : f a with
    | none => rw [List.filterMap_cons_none z, List.length_cons]; omega
    | some b =>
      rcases List.mem_cons.mp h with h | h
      · subst h; rw [q] at z; cases z
      · have := fm_lt ⟨e, h, q⟩
        rw [List.filterMap_cons_some z, List.length_cons, List.length_cons]; omega
theorem swapOff {ts vs : List Expr} {kt k2 : Nat} {pt pt2 : Pos} {env : PySem.Env} (h : offLoc env.scope ts = true) : swappedStores [.Tuple ts kt pt] (.Tuple vs k2 pt2) env = pure none := by
  unfold swappedStores
  simp only []
  split
  · rfl
  · split
    · rfl
    · rw [if_pos]
      rw [Bool.or_eq_true]
      left
      rw [bne_iff_ne]
      refine Nat.ne_of_lt (fm_lt ?_)
      obtain ⟨e, he, q⟩ := List.any_eq_true.mp h
      refine ⟨e, he, ?_⟩
      cases e with
      | Name x p =>
        have q : env.scope.names.lookup x ≠ some .local := by simpa using q
        have b : (env.kindOf x == some NameKind.local) = false := by rw [beq_eq_false_iff_ne]; exact q
        simp only [b, Bool.false_and, Bool.false_eq_true, if_false]
      | _ => rfl
theorem swapOffV {ts : List Expr} {v : Expr} {kt : Nat} {pt : Pos} {env : PySem.Env} (h : offLoc env.scope ts = true) : swappedStores [.Tuple ts kt pt] v env = pure none := by
  cases v <;> first | rfl | exact swapOff h
theorem swap4v {ts : List Expr} {v : Expr} {kt : Nat} {pt : Pos} {env : PySem.Env} (h : 4 ≤ ts.length) : swappedStores [.Tuple ts kt pt] v env = pure none := by
  cases v <;> first | rfl | exact swap4 h
theorem swap_no {ts : List Expr} {v : Expr} {kt : Nat} {pt : Pos} {env : PySem.Env} (h : notTup v = true) : swappedStores [.Tuple ts kt pt] v env = pure none := by
  cases v <;> first | rfl | cases h
theorem nm_of {e : Expr} {i : Nat} (h : chkT X.N sc (.nm i) e = true) : ∃ x p, e = .Name x p ∧ X.N[i]? = some x := by
  cases e with
  | Name x p => exact ⟨x, p, rfl, beq_iff_eq.mp (and2 (show (X.N[i]? == some x && sto sc x) = true from h)).1⟩
  | _ => cases h
theorem asgPar (c : Cst G W X T Fs Gs sc k) (ts : List Tg) (m : Ex) (st : Stmt) (h : chkP T X.N sc ts m st = true) : PS X st (tS G W fun E S => ((sem Fs Gs m).ev E S).bind fun v S1 => lift (v.dat.bind fun x => asgT (.seq ts) x E) S1) := by
  unfold chkP at h
  split at h
  · rename_i es kk pt v pos
    obtain ⟨h1, h2, h3⟩ := and3 h
    have pg : PG X (.Tuple es kk pt) (tTg G (.seq ts)) := pg_tg c.c.hK c.c.calm c.c.nd c.st (.seq ts) (.Tuple es kk pt) h2
    have sw : swapsWithSole [.Tuple es kk pt] v pos.line X.env = pure false := by cases v <;> rfl
    simp only [Bool.or_eq_true, decide_eq_true_eq] at h3
    rcases h3 with ((nt | h4) | h4) | h3
    · exact s_asgS (sokE m v c.c h1).ev pg sw (swap_no nt) rfl
    · exact s_asgS (sokE m v c.c h1).ev pg sw (swap4v h4) rfl
    · exact s_asgS (sokE m v c.c h1).ev pg sw (swapOffV (c.c.hsc ▸ h4)) rfl
    · have hsc := c.c.hsc
      match ts, h2, h3 with
      | [.nm i, .nm j], h2, h3 =>
        match m, h1, h3 with
        | .tup ms, h1, h3 =>
          match v, h1, h3, sw with
          | .Tuple vs k2 pt2, h1, h3, sw =>
            obtain ⟨hl, h3⟩ := and2 h3
            have hl := of_decide_eq_true hl
            match es, hl, h2, h3, sw with
            | [e1, e2], _, h2, h3, sw =>
              obtain ⟨g1, g2⟩ := and2 (show (chkT X.N sc (.nm i) e1 && chkTs X.N sc [.nm j] [e2]) = true from h2)
              obtain ⟨g2, _⟩ := and2 (show (chkT X.N sc (.nm j) e2 && chkTs X.N sc [] []) = true from g2)
              obtain ⟨x, px, rfl, hx⟩ := nm_of (i := i) g1
              obtain ⟨y, py, rfl, hy⟩ := nm_of (i := j) g2
              obtain ⟨s1, s2, s3, s4⟩ := swap2 (kt := kk) (pt := pt) (k2 := k2) (pt2 := pt2) c.kf (hsc ▸ h3)
              have ne : x ≠ y := by
                have q := h3
                unfold parOk at q
                simp only [Bool.and_eq_true, Bool.not_eq_true'] at q
                have q := q.1.1.1.1.2
                intro e
                rw [e, beq_self_eq_true] at q
                cases q
              match vs, s2, h1, s1, sw with
              | [a, b], _, h1, s1, sw =>
                have so := sokEs ms [a, b] c.c h1
                refine PS_imp (ps_par c.c.calm c.c.nd hx hy (fun e => ?_) s3 s4 so.pa s1 sw) (imp_par (ns := [i, j]) (Fs := Fs) par2)
                subst e
                rw [hx] at hy
                cases hy
                exact ne rfl
      | [.nm i, .nm j, .nm l], h2, h3 =>
        match m, h1, h3 with
        | .tup ms, h1, h3 =>
          match v, h1, h3, sw with
          | .Tuple vs k2 pt2, h1, h3, sw =>
            obtain ⟨hl, h3⟩ := and2 h3
            have hl := of_decide_eq_true hl
            match es, hl, h2, h3, sw with
            | [e1, e2, e3], _, h2, h3, sw =>
              obtain ⟨g1, g2⟩ := and2 (show (chkT X.N sc (.nm i) e1 && chkTs X.N sc [.nm j, .nm l] [e2, e3]) = true from h2)
              obtain ⟨g2, g3⟩ := and2 (show (chkT X.N sc (.nm j) e2 && chkTs X.N sc [.nm l] [e3]) = true from g2)
              obtain ⟨g3, _⟩ := and2 (show (chkT X.N sc (.nm l) e3 && chkTs X.N sc [] []) = true from g3)
              obtain ⟨x, px, rfl, hx⟩ := nm_of (i := i) g1
              obtain ⟨y, py, rfl, hy⟩ := nm_of (i := j) g2
              obtain ⟨z, pz, rfl, hz⟩ := nm_of (i := l) g3
              obtain ⟨s1, s2, s3, s4, s5⟩ := swap3 (kt := kk) (pt := pt) (k2 := k2) (pt2 := pt2) c.kf (hsc ▸ h3)
              have q := h3
              unfold parOk at q
              simp only [Bool.and_eq_true, Bool.not_eq_true'] at q
              have q1 := q.1.1.1.1.1.1.2
              have q2 := q.1.1.1.1.1.2
              have q3 := q.1.1.1.1.2
              have no : ∀ {u v : Str} {n n' : Nat}, (u == v) = false → X.N[n]? = some u → X.N[n']? = some v → n ≠ n' := fun hq h1 h2 e => by
                subst e
                rw [h1] at h2
                cases h2
                rw [beq_self_eq_true] at hq
                cases hq
              match vs, s2, h1, s1, sw with
              | [a, b, d], _, h1, s1, sw =>
                have so := sokEs ms [a, b, d] c.c h1
                exact PS_imp (ps_par3 c.c.calm c.c.nd hx hy hz (no q1 hx hy) (no q2 hx hz) (no q3 hy hz) s3 s4 s5 so.pa s1 sw) (imp_par (ns := [i, j, l]) (Fs := Fs) par3)
  · cases h
end
end Mi

set_option maxHeartbeats 4000000
/-! statements that look like the small language's do what that says -/
namespace Mi
open PySem PySem.Spec PyProof.Rows L2
theorem chkS_asgS (T : Tb) (N : List Str) (sc : Scope) (ts : List Tg) (e : Ex) (st : Stmt) : chkS T N sc (.asgS ts e) st = chkP T N sc ts e st := rfl
theorem semS_asgS (Fs : Fns) (Gs : List D) (n : Nat) (ts : List Tg) (e : Ex) : semS Fs Gs n (.asgS ts e) = fun E S => ((sem Fs Gs e).ev E S).bind fun v S1 => lift (v.dat.bind fun x => asgT (.seq ts) x E) S1 := rfl
theorem chkB_cons (T : Tb) (N : List Str) (sc : Scope) (s : Sx) (r : List Sx) (ss : List Stmt) : chkB T N sc (s :: r) ss = if isFrz s then chkB T N sc r ss else match ss with
    | st :: ss => chkS T N sc s st && chkB T N sc r ss
    | [] => false := by cases ss <;> rfl
theorem asgIx {G : Gb} {T : Tb} {Fs : Fns} {Gs : List D} {k : Nat} {X : Cx} {W : WX} {sc : Scope} (c : Cst G W X T Fs Gs sc k) (Wn : Nat) (o i e : Ex) (st : Stmt) (h : chkI T X.N sc o i e st = true) : PS X st (tS G W (semS Fs Gs Wn (.setix o i e))) := by
  unfold chkI at h
  split at h
  · rename_i o' i' _ v _
    obtain ⟨h, h3⟩ := and2 h
    obtain ⟨h0, h1, h2⟩ := and3 h
    exact PS_imp (ps_asg (sokE e v c.c h3).ev (pg_sub (sokE o o' c.c h1).ev (sokE i i' c.c h2).ev (set_D (by have := c.c.un; omega)) (by intro _; cases i' <;> first | rfl | cases h0)) (by cases v <;> rfl) (by cases v <;> rfl) rfl) imp_set
  · cases h
mutual
theorem sokS {G : Gb} {T : Tb} {Fs : Fns} {Gs : List D} {k : Nat} {Wn : Nat} {X : Cx} {W : WX} {sc : Scope} (c : Cst G W X T Fs Gs sc k) : ∀ (s : Sx) (st : Stmt), isFrz s = false → chkS T X.N sc s st = true → PS X st (tS G W (semS Fs Gs Wn s))
  | .asg i e, st, _, h => PS_imp (asgName c i e st h) imp_asg
  | .asgN i e, st, _, h => PS_imp (asgName c i e st h) imp_asgN
  | .asgS ts e, st, _, h => by
    rw [chkS_asgS] at h
    rw [semS_asgS]
    exact asgPar c ts e st h
  | .setix o i e, st, _, h => asgIx c Wn o i e st h
  | .ex e, st, _, h => by
    cases st with
    | Expr e' _ =>
      obtain ⟨h1, h2⟩ := and2 h
      exact s_ex (sokE e e' c.c h2).ev (sw_false h1 _ _ _)
    | _ => cases h
  | .ret e, st, _, h => by
    cases st with
    | Return v _ =>
      cases v with
      | some e' => exact s_ret (sokE e e' c.c h).ev
      | none => cases h
    | _ => cases h
  | .retN, st, _, h => by
    cases st with
    | Return v _ =>
      cases v with
      | none => exact s_retN
      | some e' => cases h
    | _ => cases h
  | .iff t a b, st, _, h => by
    cases st with
    | If t' a' b' _ =>
      obtain ⟨h1, h2, h3⟩ := and3 h
      exact s_iff (sokE t t' c.c h1).ts (sokB c a a' h2) (sokB c b b' h3)
    | _ => cases h
  | .whl t b, st, _, h => by
    cases st with
    | While t' b' o _ =>
      cases o with
      | nil =>
        obtain ⟨h1, h2⟩ := and2 h
        exact s_whl c.hp (sokE t t' c.c h1).ts (sokB c b b' h2)
      | cons _ _ => cases h
    | _ => cases h
  | .for tg it b, st, _, h => by
    cases st with
    | For tg' it' b' o _ =>
      cases o with
      | nil =>
        obtain ⟨h, h5⟩ := and2 h
        obtain ⟨h, h4⟩ := and2 h
        obtain ⟨h1, h2, h3⟩ := and3 h
        refine s_for c.hp c.c.calm ((sokE it it' c.c h4).it tg' fun q => ?_) (pg_tg c.c.hK c.c.calm c.c.nd c.st tg tg' h1) (sokB c b b' h5) (fold_ok h2 _)
        rcases Bool.or_eq_true_iff.mp h3 with e | e
        · rw [q] at e; cases e
        · exact e
      | cons _ _ => cases h
    | _ => cases h
  | .brk, st, _, h => by
    cases st with
    | Break _ => exact s_brk
    | _ => cases h
  | .cont, st, _, h => by
    cases st with
    | Continue _ => exact s_cont
    | _ => cases h
  | .pass, st, _, h => by
    cases st with
    | Pass _ => exact s_pass
    | _ => cases h
  | .raise _ _, st, _, h => ⟨fun pins s σ H D I ⟨M, ρ, E, S, hE, hS, g⟩ => g.elim⟩
  | .frz _, st, n, h => by cases n
theorem sokB {G : Gb} {T : Tb} {Fs : Fns} {Gs : List D} {k : Nat} {Wn : Nat} {X : Cx} {W : WX} {sc : Scope} (c : Cst G W X T Fs Gs sc k) : ∀ (b : List Sx) (ss : List Stmt), chkB T X.N sc b ss = true → PSs X ss (tS G W (semB Fs Gs Wn b))
  | [], ss, h => by
    cases ss with
    | nil => exact b_nil (Fs := Fs) (Gs := Gs) (n := Wn)
    | cons _ _ => cases h
  | s :: r, ss, h => by
    by_cases f : isFrz s = true
    · cases s with
      | frz i => exact b_frz (sokB c r ss h)
      | _ => cases f
    · have f' : isFrz s = false := by simpa using f
      rw [chkB_cons, if_neg f] at h
      cases ss with
      | nil => cases h
      | cons st ss =>
        obtain ⟨h1, h2⟩ := and2 h
        exact b_cons (sokS c s st f' h1) (sokB c r ss h2)
end
end Mi

set_option maxHeartbeats 4000000
/-! defs: what they hand back; the whole text by levels -/
namespace Mi
open PySem PySem.Spec PyProof.Rows L2
section
variable {G : Gb} {W : WX} {M : Addr → Prop} {σ : L2.St} {ρ ρ' : List Addr} {S S' : Store} {H H' : Hp}
/-- what came within a def is forgotten -/
theorem Far.back {M' : Addr → Prop} (t : Far ρ S H ρ' S' H') (sl : ρ.length = S.length) (sa : ∀ (l : Nat) a, ρ[l]? = some a → H a ≠ none) (s' : Sim G M H' ρ' S') (far : ∀ a, M' a → ∀ (l : Nat), ρ[l]? ≠ some a) (up : ∀ a, M' a → Av M ρ' S' a) :
    Step ρ S H (S'.take S.length) H' ∧ Sim G M' H' ρ (S'.take S.length) ∧ (∀ a, Av M' ρ (S'.take S.length) a → Av M ρ' S' a) ∧ S.length ≤ S'.length := by
  have hl : S.length ≤ S'.length := by
    rw [← sl, ← s'.len]
    apply Nat.le_of_not_lt
    intro z
    have h1 : ρ[ρ'.length]? = some ρ[ρ'.length] := List.getElem?_eq_getElem z
    have h2 := (List.getElem?_eq_some_iff.mp (t.pre _ _ h1)).1
    omega
  have get : ∀ (l : Nat) a c, ρ[l]? = some a → (S'.take S.length)[l]? = some c → ρ'[l]? = some a ∧ S'[l]? = some c := fun l a c h1 h2 => by
    have hlt : l < S.length := by rw [← sl]; exact (List.getElem?_eq_some_iff.mp h1).1
    rw [List.getElem?_take_of_lt hlt] at h2
    exact ⟨t.pre l a h1, h2⟩
  have up1 : ∀ l a, At ρ (S'.take S.length) l a → At ρ' S' l a := fun l a ⟨h1, c, h2, h3⟩ => let ⟨g1, g2⟩ := get l a c h1 h2; ⟨g1, c, g2, h3⟩
  have live : ∀ a, Live ρ (S'.take S.length) a → Live ρ' S' a := fun a ⟨l, h⟩ => ⟨l, up1 l a h⟩
  have av : ∀ a, Av M' ρ (S'.take S.length) a → Av M ρ' S' a := fun a z => z.elim (fun z => .inl (live a z)) (up a)
  refine ⟨⟨t.keep, fun a z => ?_⟩, ⟨by rw [List.length_take, sl]; omega, fun l k a h1 h2 => s'.uni l k a (up1 l a h1) (up1 k a h2), fun l a c h1 h2 => ?_, fun l a h => s'.all l a (t.pre l a h), fun a h => s'.fit a (up a h), fun l a h1 h2 => far a h2 l h1⟩, av, hl⟩
  · obtain ⟨l, h1, _⟩ := id z
    rcases t.live a (live a z) with q | q
    · exact q
    · exact absurd q (sa l a h1)
  · obtain ⟨g1, g2⟩ := get l a c h1 h2
    exact (s'.cell l a c g1 g2).less av
theorem Far.back0 (t : Far ρ S H ρ' S' H') (s : Sim G M H ρ S) (s' : Sim G M H' ρ' S') : Step ρ S H (S'.take S.length) H' ∧ Sim G M H' ρ (S'.take S.length) ∧ (∀ a, Av M ρ (S'.take S.length) a → Av M ρ' S' a) ∧ S.length ≤ S'.length :=
  t.back s.len s.all s' (fun a h l e => s.ap l a e h) fun a h => .inr h
/-- a cell of its own that is handed back -/
theorem Far.out (t : Far ρ S H ρ' S' H') (s : Sim G M H ρ S) (s' : Sim G M H' ρ' S') {l : Nat} {p : Addr} {c : Cell} (hl : S.length ≤ l) (hp : ρ'[l]? = some p) (hc : S'[l]? = some c) (lv : c.lives) : Out G M H ρ (S'.take S.length) (.ref p) H' (.own c) := by
  have new : H p = none := t.new l p (by rw [s.len]; exact hl) hp
  have no : ∀ j : Nat, ρ[j]? ≠ some p := fun j e => s.all j p e new
  have lp : Live ρ' S' p := ⟨l, hp, c, hc, lv⟩
  have mp : ¬ M p := s'.ap l p hp
  obtain ⟨_, s2, av, _⟩ := t.back (M' := And1 M p) s.len s.all s' (fun a h j e => h.elim (fun h => s.ap j a e h) fun q => no j (q ▸ e)) fun a h => h.elim .inr fun e => .inl (e ▸ lp)
  refine ⟨p, rfl, new, ?_, no, lv, s2, (s'.cell l p c hp hc).less av⟩
  rintro (⟨j, h1, c', h2, h3⟩ | h)
  · exact no j h1
  · exact mp h
theorem fin_ok {D : Ends} {Q : VK} {E : XK} {r : R (Fl × Env)} (s : Sim G M H ρ S) (hnx : ∀ σ H', Q .non H' → D.nx σ H') (hrt : ∀ v H', Q v H' → D.rt v H')
    (g : Got G (fun cls d _ H => E cls d H) M σ ρ S H (fin S.length r) fun x S' => ∀ v H', Step ρ S H S' H' → Out G M H ρ S' v H' x → Q v H') : GotS G (fun cls d _ H => E cls d H) M ρ S H D r := by
  cases r with
  | no => exact g.elim
  | ex c a S' =>
    intro ρ' σ' cls d H' t s' e
    obtain ⟨t1, s1, av, _⟩ := t.back0 s s'
    obtain ⟨e1, dx, f, v, e2, e3, e4⟩ := e
    exact g cls d H' t1 s1 ⟨e1, dx, f, v, e2, e3, e4.less av⟩
  | ok p S' =>
    obtain ⟨f, E'⟩ := p
    intro ρ' σ' H' t
    cases f with
    | nx =>
      intro hE s'
      obtain ⟨t1, s1, av, _⟩ := t.back0 s s'
      exact hnx _ _ (g .non H' t1 ⟨s1, .d .non⟩)
    | bk => exact g.elim
    | ct => exact g.elim
    | rt x =>
      intro v o
      refine hrt _ _ ?_
      have s' := o.sim
      obtain ⟨t1, s1, av, hl⟩ := t.back0 s s'
      cases x with
      | d x => exact g v H' t1 ⟨s1, .d (o.d.less av)⟩
      | err c a => obtain ⟨_, r⟩ := o; cases r
      | own c =>
        obtain ⟨p, rfl, hp, np, hn, lv, s2, hc⟩ := o
        have g : ∀ v H', Step ρ S H (S'.take S.length) H' → Out G M H ρ (S'.take S.length) v H' (.own c) → Q v H' := g
        refine g _ H' t1 ⟨p, rfl, hp, fun z => np (av p z), fun l e => hn l (t.pre l p e), lv, ?_, ?_⟩
        · exact (t.back (M' := And1 M p) s.len s.all s2 (fun a h l e => h.elim (s.ap l a e) fun q => hn l (t.pre l p (q ▸ e))) fun a h => .inr h).2.1
        · refine hc.less fun a z => ?_
          rcases av_and.mp z with z | z
          · exact av_and.mpr (.inl (av a z))
          · exact av_and.mpr (.inr z)
      | ref l =>
        obtain ⟨_, r⟩ := o
        cases r with
        | ref h =>
          rename_i a
          have g : Got G (fun cls d _ H => E cls d H) M σ ρ S H (if l < S.length then (.ok (.ref l) (S'.take S.length) : R Val) else match S'[l]? with
            | some (.lst xs) => .ok (.own (.lst xs)) (S'.take S.length)
            | some (.dct ks vs) => .ok (.own (.dct ks vs)) (S'.take S.length)
            | _ => .no) _ := g
          by_cases z : l < S.length
          · rw [if_pos z] at g
            have hr : ρ[l]? = some a := by
              have zl : l < ρ.length := by rw [s.len]; exact z
              have h1 : ρ[l]? = some ρ[l] := List.getElem?_eq_getElem zl
              have h2 := t.pre _ _ h1
              rw [h] at h2
              cases h2
              exact h1
            exact g _ H' t1 ⟨s1, .ref hr⟩
          · rw [if_neg z] at g
            cases q : S'[l]? with
            | none => rw [q] at g; exact g.elim
            | some c =>
              rw [q] at g
              cases c with
              | lst xs => exact g _ H' t1 (t.out s s' (by omega) h q trivial)
              | dct ks vs => exact g _ H' t1 (t.out s s' (by omega) h q trivial)
              | gone => exact g.elim
end
/-- how the slots stand at the entry -/
theorem env_start {G : Gb} {H : Hp} {N : Addr → Prop} {ρ : List Addr} {NN : List Str} {vs : List V} {xs : List Val} {n : Nat} (r : Paired (VR G H N ρ) vs xs) (hn : NN.length = n) : EnvR G H N ρ (L2.start NN vs) (xs.map some ++ List.replicate (n - xs.length) none) := by
  have hl : vs.length = xs.length := Paired.length r
  have get : ∀ {vs : List V} {xs : List Val}, Paired (VR G H N ρ) vs xs → ∀ (i : Nat) x, xs[i]? = some x → ∃ v, vs[i]? = some v ∧ VR G H N ρ v x := by
    intro vs xs r
    induction r with
    | nil => intro i x h; simp at h
    | cons h r ih =>
      intro i x e
      cases i with
      | zero => simp at e; subst e; exact ⟨_, rfl, h⟩
      | succ i => obtain ⟨v, h1, h2⟩ := ih i x (by simpa using e); exact ⟨v, by simpa using h1, h2⟩
  refine ⟨by unfold L2.start; simp [hl, hn], fun i x e => ?_⟩
  by_cases hi : i < xs.length
  · rw [List.getElem?_append_left (by simpa using hi)] at e
    obtain ⟨v, h1, h2⟩ := get r i x (by simpa using e)
    refine ⟨v, ?_, h2⟩
    unfold L2.start
    rw [List.getElem?_append_left (by simp; omega)]
    simp [h1]
  · rw [List.getElem?_append_right (by simpa using Nat.le_of_not_lt hi), List.getElem?_replicate] at e
    split at e <;> cases e
/-- a def of the text -/
structure Ok1 (G : Gb) (T : Tb) (f : Nat) (fd : Fd) (fdat : FuncData) (ps : List Str) : Prop where
  ex : ∃ (x qual : Str) (st : Stmt) (N : List Str), Fun G.K x qual st (G.adr f) fdat ∧ FnScope N ps (defScope st) ∧ ps.length = fd.np ∧ N.length = fd.ns ∧ chkB T N (defScope st) fd.body (defBody st) = true
  bi : Binds G.K fdat ps []
/-- the text -/
structure Text (G : Gb) (T : Tb) (mg : Str → Option Value) (fds : List Fd) (Gs : List D) : Prop where
  def_ : ∀ (f : Nat) (fd : Fd), fds[f]? = some fd → ∃ fdat ps, Ok1 G T f fd fdat ps
  fns : ∀ (f : Nat) (x : Str), T.fns[f]? = some x → mg x = some (.ref (G.adr f)) ∧ PySem.W.keepIn G.K (.ref (G.adr f)) = true ∧ f < fds.length
  gls : ∀ (g : Nat) (x : Str), T.gls[g]? = some x → ∃ d v u, Gs[g]? = some d ∧ (∀ H N, DR G H N v d) ∧ mg x = some u ∧ RelV v u
  cls : ∀ (c : Nat) (x : Str), T.cls[c]? = some x → mg x = some (.ref (G.cad c))
  blt : ∀ x, T.blt.contains x = true → mg x = none
theorem levels {G : Gb} {T : Tb} {P : Program} {w : World} {mg : Str → Option Value} {base : Heap} {fds : List Fd} {Gs : List D} {Wn : Nat} (X : Text G T mg fds Gs) :
    ∀ (n f : Nat) (fd : Fd) (fdat : FuncData) (ps : List Str), fds[f]? = some fd → Ok1 G T f fd fdat ps → FnG P w G.K mg base n (G.adr f) fdat ps (spM G (callF fds Gs Wn n f)) := by
  intro n
  induction n with
  | zero => exact fun f fd fdat ps hf O => ⟨fun vs H Q E ⟨M, ρ, S, xs, s, r, g⟩ => g.elim, fun A outer s H args us vs Q E hr hg e0 hb r ⟨M, ρ, S, xs, sm, r', g⟩ => g.elim⟩
  | succ n ih =>
    intro f fd fdat ps hf O
    obtain ⟨x, qual, st, N, F, S, hp, hN, hb⟩ := O.ex
    have run : ∀ (xs : List Val) (S : Store), callF fds Gs Wn (n + 1) f xs S = runF (callF fds Gs Wn n) Gs Wn fd xs S := fun xs S => by
      show (match fds[f]? with
        | some fd => runF (callF fds Gs Wn n) Gs Wn fd xs S
        | none => .no) = _
      rw [hf]
    have len : ∀ (xs : List Val) (S : Store), callF fds Gs Wn (n + 1) f xs S ≠ .no → xs.length = fd.np := fun xs S h => by
      rw [run] at h
      unfold runF at h
      by_cases z : xs.length = fd.np
      · exact z
      · rw [if_neg z] at h; exact absurd rfl h
    refine fn_g F S (fun vs H Q E ⟨M, ρ, S, xs, s, r, g⟩ => ?_) fun cdv A outer s H vs Q E hr hg ⟨M, ρ, S0, xs, sm, r, g⟩ => ?_
    · rw [Paired.length r, hp]
      exact len xs S fun e => by rw [e] at g; exact g.elim
    · have hl : xs.length = fd.np := len xs S0 fun e => by rw [e] at g; exact g.elim
      have c : Cst G (fun cls d _ H => E cls d H) (cxOf (L2.CX P w) P w G.K mg base N qual (defScope st) (G.adr f) cdv A outer s H E) T (callF fds Gs Wn n) Gs (defScope st) n := by
        refine ⟨⟨rfl, S.nd, rfl, rfl, hr, hg, takes_of rfl rfl rfl rfl, fun f' x' e => ?_, X.gls, X.cls, X.blt⟩, fun y h => ⟨?_, .inl rfl⟩, S.kind, passes_of rfl⟩
        · obtain ⟨h1, h2, h3⟩ := X.fns f' x' e
          obtain ⟨fdat', ps', O'⟩ := X.def_ f' _ (List.getElem?_eq_getElem h3)
          exact ⟨h1, h2, fdat', ps', ih f' _ fdat' ps' (List.getElem?_eq_getElem h3) O', O'.bi⟩
        · have h := Bool.or_eq_true_iff.mp h
          rcases h with h | h
          · exact .inl (beq_iff_eq.mp h)
          · exact .inr (beq_iff_eq.mp h)
      refine ⟨_, sokB (Wn := Wn) c fd.body (defBody st) hb, M, ρ, xs.map some ++ List.replicate (fd.ns - xs.length) none, S0, env_start r hN, sm, ?_⟩
      refine fin_ok (Q := Q) (σ := []) sm (fun _ _ h => h) (fun _ _ h => h) ?_
      rw [run] at g
      unfold runF at g
      rw [if_pos hl] at g
      exact g
end Mi

set_option maxHeartbeats 4000000
/-! the law's call -/
namespace Mi
open PySem PySem.Spec PyProof.Rows L2
def kInts (ns : List Int) : D := .klst (ns.map .int)
theorem drs_int {G : Gb} {H : Hp} {N : Addr → Prop} : ∀ ns : List Int, DRs G H N (ns.map V.int) (ns.map D.int)
  | [] => .nil
  | n :: ns => .cons (.int n) (drs_int ns)
/-- nothing is tracked but (it may be) the script -/
structure Bare (K : PySem.W.Frag) (a : Addr) (xs : List V) (o : Obj) (H : Hp) : Prop where
  all : ∀ b u, H b = some u → b = a ∧ u = .frz o (.lst xs) ∧ K.lookup a = none
  rl : ∀ N : Addr → Prop, ¬ N a → RL K H N a xs
theorem bare_of (K : PySem.W.Frag) (a : Addr) (xs : List V) (us : List Value) (hv : Vals xs us) (hz : xs.length ≤ sizeLine) (hk : ∀ o, K.lookup a = some o → o = { cls := .type "list", data := .seq us.toArray }) :
    ∃ H, Bare K a xs { cls := .type "list", data := .seq us.toArray } H := by
  cases e : K.lookup a with
  | some o =>
    have eo := hk o e
    refine ⟨fun _ => none, fun b u h => absurd (show (none : Option HO) = some u from h) (by simp), fun N n => .inr ⟨o, us.toArray, _, e, by rw [eo], by rw [eo], by rw [eo], ?_, by simpa using hv⟩⟩
    rw [List.size_toArray, ← hv.length]
    exact hz
  | none =>
    refine ⟨fun b => if b = a then some (.frz { cls := .type "list", data := .seq us.toArray } (.lst xs)) else none, fun b u h => ?_, fun N n => .inl ⟨.inr ⟨{ cls := .type "list", data := .seq us.toArray }, if_pos rfl⟩, n⟩⟩
    by_cases z : b = a
    · have q := (if_pos z).symm.trans h
      cases q
      exact ⟨z, rfl, e⟩
    · have q := (if_neg z).symm.trans h
      cases q
theorem call_law {G : Gb} {P : Program} {w : World} {mg mb : Str → Option Value} {k : Nat} {fa a : Addr} {fd : FuncData} {x : Str} {F : List Val → Store → R Val} {s₁ : Shared} {us : List Value} {ns : List Int}
    (KX : G.K.In s₁.heap) (hns : s₁.heap.Ns mainGlobals mg) (hb : s₁.heap.Ns builtinsNs mb) (hbb : ∀ y : Str, y ≠ "__name__" → mb y = bootBuiltins y) (hlim : s₁.heap.NoLimit) (hg : s₁.gens = #[])
    (ha : s₁.heap.get? a = some { cls := .type "list", data := .seq us.toArray }) (hi : IntsAre us ns) (hl : ns.length ≤ sizeLine) (hr : Room k callerA) (hgr : callerA.guards = some [])
    (FG : ∀ base : Heap, FnG P w G.K mg base k fa fd [x] (spM G F)) (hbind : ∀ (s : Shared) (u : Value), BindsTo s fd ⟨[u], []⟩ [(x, u)])
    (law : ∃ S', F [.d (kInts ns)] [] = .ok (.d (.bl true)) S') :
    codeAny (model P w) callerA (.call (.ref fa) ⟨[.ref a], []⟩) (fun r s' => r = .ok (.ret (.bool true)) ∧ OldK s₁.heap s'.heap ∧ s'.os = s₁.os ∧ AllBare s'.gens) s₁ := by
  have hv : Vals (ns.map V.int) us := vals_ints hi
  have hz : (ns.map V.int).length ≤ sizeLine := by rw [List.length_map]; exact hl
  obtain ⟨H, B⟩ := bare_of G.K a (ns.map V.int) us hv hz fun o e => by
    have q := KX a o e
    rw [ha] at q
    exact (Option.some.inj q).symm
  -- what is not tracked stands in the base
  have keep : ∀ b o, s₁.heap.get? b = some o → H b = none → (hidT s₁.heap H).get? b = some o := fun b o e n => hidT_get e n
  have off : ∀ b o, s₁.heap.get? b = some o → (b = a → o.data ≠ .seq us.toArray) → H b = none := fun b o e n => by
    cases q : H b with
    | none => rfl
    | some u =>
      obtain ⟨rfl, _, _⟩ := B.all b u q
      rw [ha] at e
      cases e
      exact absurd rfl (n rfl)
  have ns_ : ∀ {b : Addr} {m : Str → Option Value}, s₁.heap.Ns b m → (hidT s₁.heap H).Ns b m := fun {b m} ⟨o, es, ep, e, d, r⟩ =>
    ⟨o, es, ep, keep b o e (off b o e fun _ z => by rw [d] at z; cases z), d, r⟩
  have kin : G.K.In (hidT s₁.heap H) := fun b o e => keep b o (KX b o e) (by
    cases q : H b with
    | none => rfl
    | some u =>
      obtain ⟨rfl, _, n⟩ := B.all b u q
      rw [n] at e
      cases e)
  have md : Mod G.K mg (hidT s₁.heap H) := ⟨kin, ns_ hns, ⟨mb, ns_ hb, hbb⟩, let ⟨mc, h1, h2⟩ := hlim; ⟨mc, ns_ h1, h2⟩⟩
  have hok : HOk P w H s₁.heap := fun b u q => by
    obtain ⟨rfl, rfl, _⟩ := B.all b u q
    exact ⟨ha, hz, us, _, hv, ha⟩
  have e0 : Env0 P w G.K mg (hidT s₁.heap H) callerA [] s₁ H :=
    ⟨rfl, md, fun b o e => of_hidT e, Nat.le_of_eq (hidT_size _ _), trivial, fun b hb => (nomatch hb), hok, .of_eq hg⟩
  obtain ⟨S', law⟩ := law
  have sp : spM G F [.ref a] H (fun v _ => v = .bl true) fun _ _ _ => False := by
    refine ⟨fun _ => False, [], [], [.d (kInts ns)], ⟨rfl, fun l k b ⟨h, _⟩ => by simp at h, fun l b c h => by simp at h, fun l b h => by simp at h, fun b h => h.elim, fun l b h => by simp at h⟩,
      .cons (.d (.klst (B.rl _ ?_) (drs_int ns))) .nil, ?_⟩
    · rintro (⟨l, h, _⟩ | h)
      · simp at h
      · exact h
    · rw [law]
      intro v H' t o
      have r := o.d
      cases r
      rfl
  refine codeAny_mono ((FG (hidT s₁.heap H)).run callerA [] s₁ H ⟨[.ref a], []⟩ [.ref a] [.ref a] _ _ hr hgr e0 (hbind s₁ (.ref a)) (.cons rfl .nil) sp) fun r s' h => ?_
  match r, h with
  | .error e, ⟨_, _, _, _, _, _, _, _, _, _, _, _, f⟩ => exact f.elim
  | .ok (.ret u), ⟨v, H', os, bare, un, hok', rv, q⟩ =>
    have q : v = .bl true := q
    subst q
    obtain rfl : u = Value.bool true := rv
    refine ⟨rfl, OldK.of_keep fun b o e => ?_, os, bare⟩
    cases q : H b with
    | none => exact un.keep b o e q (by intro z; cases z) (by intro z; cases z)
    | some t =>
      obtain ⟨rfl, rfl, _⟩ := B.all b t q
      rw [ha] at e
      cases e
      exact (hok' _ _ (un.frzs _ _ _ q)).1
end Mi

set_option maxHeartbeats 4000000
/-! the whole text from its rows; the law's walk -/
namespace Mi
open PySem PySem.Spec PyProof.Rows L2
/-- a def of the text: its name, its statement, its slots, its parameters, what it is in the small language -/
structure Rw where
  x : Str
  st : Stmt
  N : List Str
  ps : List Str
  fd : Fd
def scB (N ps : List Str) (sc : Scope) : Bool :=
  decide (sc.kind = .function) && !sc.isCoroutine && !sc.isGenerator && decide N.Nodup && decide (N.take ps.length = ps) && (ps.all fun x => decide (sc.names.lookup x = some .local) || decide (sc.names.lookup x = some .cell)) && sc.names.all fun y => decide (y.2 ≠ .free)
theorem scB_ok {N ps : List Str} {sc : Scope} (h : scB N ps sc = true) : FnScope N ps sc := by
  unfold scB at h
  simp only [Bool.and_eq_true, Bool.or_eq_true, decide_eq_true_eq, Bool.not_eq_true', List.all_eq_true] at h
  obtain ⟨⟨⟨⟨⟨⟨h1, h2⟩, h3⟩, h4⟩, h5⟩, h6⟩, h7⟩ := h
  exact ⟨h1, h2, h3, h4, h5, h6, h7⟩
def rowB (T : Tb) (r : Rw) : Bool := scB r.N r.ps (defScope r.st) && decide (r.ps.length = r.fd.np) && decide (r.N.length = r.fd.ns) && chkB T r.N (defScope r.st) r.fd.body (defBody r.st)
/-- where it stands -/
structure DefR (K : PySem.W.Frag) (r : Rw) (p : Addr × FuncData) : Prop where
  ns : PySem.W.nsIn K mainGlobals r.x = some (some (.ref p.1))
  fn : Fun K r.x r.x r.st p.1 p.2
  bi : Binds K p.2 r.ps []
theorem defR_mk {K : PySem.W.Frag} {r : Rw} {f : Addr} {oc : Value} {od an : Option Addr} {sl : Array (Option Value)} {kV dc pm cd ct : Value} (a : PySem.W.nsIn K mainGlobals r.x = some (some (.ref f)))
    (l : K.lookup f = some ⟨oc, od, .func (PySem.W.fnOf r.x r.x (defArgs r.st) (defBody r.st) (defScope r.st) .none kV dc pm an cd ct), sl⟩) (c : PySem.W.codeIn K cd r.x = true) (k : PySem.W.keepIn K (.ref f) = true)
    (hb : ∀ (kV dc pm : Value) (an : Option Addr) (cd ct : Value) (us : List Value), us.length = r.ps.length → bindArgs (PySem.W.fnOf r.x r.x (defArgs r.st) (defBody r.st) (defScope r.st) .none kV dc pm an cd ct) ⟨us, []⟩ = pure (r.ps.zip us)) :
    DefR K r (f, PySem.W.fnOf r.x r.x (defArgs r.st) (defBody r.st) (defScope r.st) .none kV dc pm an cd ct) :=
  ⟨a, fun_mk (st := r.st) l c k, (fun_mk (st := r.st) l c k).binds hb⟩
/-- a constant of the text -/
structure GlbR (K : PySem.W.Frag) (x : Str) (d : D) : Prop where
  ex : ∃ v u, PySem.W.nsIn K mainGlobals x = some (some u) ∧ RelV v u ∧ ∀ (G : Gb) H N, G.K = K → DR G H N v d
theorem paired_get {α β : Type} {R : α → β → Prop} {xs : List α} {ys : List β} (h : Paired R xs ys) : ∀ (i : Nat) (x : α), xs[i]? = some x → ∃ y, ys[i]? = some y ∧ R x y := by
  induction h with
  | nil => intro i x e; simp at e
  | cons h r ih =>
    intro i x e
    cases i with
    | zero => simp at e; subst e; exact ⟨_, rfl, h⟩
    | succ i => obtain ⟨y, h1, h2⟩ := ih i x (by simpa using e); exact ⟨y, by simpa using h1, h2⟩
theorem text_of {K : PySem.W.Frag} {h : Heap} {mg : Str → Option Value} {rows : List Rw} {fs : List (Addr × FuncData)} {T : Tb} {Gs : List D} {cs : List Addr} (X : K.In h) (G : h.Ns mainGlobals mg) (hT : T.fns = rows.map (·.x)) (hB : rows.all (rowB T) = true)
    (hf : Paired (DefR K) rows fs) (hg : Paired (GlbR K) T.gls Gs) (hc : Paired (fun x a => PySem.W.nsIn K mainGlobals x = some (some (.ref a))) T.cls cs) (hb : ∀ x ∈ T.blt, PySem.W.nsIn K mainGlobals x = some none) :
    Text ⟨K, fun i => (fs.map (·.1)).getD i 0, fun i => cs.getD i 0⟩ T mg (rows.map (·.fd)) Gs ∧ ∀ (f : Nat) (r : Rw), rows[f]? = some r → ∃ p, fs[f]? = some p ∧ DefR K r p ∧ Ok1 ⟨K, fun i => (fs.map (·.1)).getD i 0, fun i => cs.getD i 0⟩ T f r.fd p.2 r.ps := by
  have one : ∀ (f : Nat) (r : Rw), rows[f]? = some r → ∃ p, fs[f]? = some p ∧ (fs.map (·.1)).getD f 0 = p.1 ∧ DefR K r p ∧ Ok1 ⟨K, fun i => (fs.map (·.1)).getD i 0, fun i => cs.getD i 0⟩ T f r.fd p.2 r.ps := fun f r e => by
    obtain ⟨p, h1, h2⟩ := paired_get hf f r e
    have ea : (fs.map (·.1)).getD f 0 = p.1 := by rw [List.getD_eq_getElem?_getD, List.getElem?_map, h1]; rfl
    have b := List.all_eq_true.mp hB r (List.mem_of_getElem? e)
    unfold rowB at b
    simp only [Bool.and_eq_true, decide_eq_true_eq] at b
    obtain ⟨⟨⟨b1, b2⟩, b3⟩, b4⟩ := b
    refine ⟨p, h1, ea, h2, ⟨r.x, r.x, r.st, r.N, ?_, scB_ok b1, b2, b3, b4⟩, h2.bi⟩
    show Fun K r.x r.x r.st ((fs.map (·.1)).getD f 0) p.2
    rw [ea]
    exact h2.fn
  refine ⟨⟨fun f fd e => ?_, fun f x e => ?_, fun g x e => ?_, fun c x e => ?_, fun x hx => ?_⟩, fun f r e => let ⟨p, h1, _, h2, h3⟩ := one f r e; ⟨p, h1, h2, h3⟩⟩
  · rw [List.getElem?_map] at e
    obtain ⟨r, e1, rfl⟩ := Option.map_eq_some_iff.mp e
    obtain ⟨p, _, _, _, o⟩ := one f r e1
    exact ⟨p.2, r.ps, o⟩
  · rw [hT, List.getElem?_map] at e
    obtain ⟨r, e1, rfl⟩ := Option.map_eq_some_iff.mp e
    obtain ⟨p, h1, ea, h2, _⟩ := one f r e1
    refine ⟨?_, ?_, by rw [List.length_map]; exact (List.getElem?_eq_some_iff.mp e1).1⟩
    · show mg r.x = some (.ref ((fs.map (·.1)).getD f 0))
      rw [ea]
      exact PySem.W.mg_of X G h2.ns
    · show PySem.W.keepIn K (.ref ((fs.map (·.1)).getD f 0)) = true
      rw [ea]
      exact h2.fn.kp
  · obtain ⟨d, h1, ⟨v, u, h2, h3, h4⟩⟩ := paired_get hg g x e
    exact ⟨d, v, u, h1, fun H N => h4 _ H N rfl, PySem.W.mg_of X G h2, h3⟩
  · obtain ⟨a, h1, h2⟩ := paired_get hc c x e
    show mg x = some (.ref (cs.getD c 0))
    rw [List.getD_eq_getElem?_getD, h1]
    exact PySem.W.mg_of X G h2
  · exact PySem.W.mg_none_of X G (hb x (List.contains_iff_mem.mp hx))
/-- the law's walk, from what the interpreter says -/
theorem walk_law {l : PySem.W.OpenLaw} {n k : Nat} {q : Program} {loose : List Str} {XP : (Str → Option Value) → Heap → Prop} {YP : World → Heap → Prop} {d : DefRec} {K : Params → PySem.W.Frag} {x : Str} {T : Tb} {rows : List Rw} {Gs : List D} {Wn fi : Nat}
    (hn : l.most = some n) (hn2 : n ≤ sizeLine) (hdf : d.params.defaults = []) (hr : Room k callerA) (hgr : callerA.guards = some [])
    (hY : ∀ (w : World) (h : Heap), YP w h → (K w.params).In h) (hT : T.fns = rows.map (·.x)) (hB : rows.all (rowB T) = true) (hfi : ∃ r, rows[fi]? = some r ∧ r.x = d.name ∧ r.ps = [x])
    (F : ∀ w : World, ∃ (fs : List (Addr × FuncData)) (cs : List Addr), Paired (DefR (K w.params)) rows fs ∧ Paired (GlbR (K w.params)) T.gls Gs ∧ Paired (fun x a => PySem.W.nsIn (K w.params) mainGlobals x = some (some (.ref a))) T.cls cs ∧
      (∀ y ∈ T.blt, PySem.W.nsIn (K w.params) mainGlobals y = some none) ∧ ∀ p, fs[fi]? = some p → ∀ (s : Shared) (u : Value), BindsTo s p.2 ⟨[u], []⟩ [(x, u)])
    (law : ∀ ns : List Int, ns.length ≤ n → (∀ z ∈ ns, Builtin.Int.intBits z ≤ 1048576) → ∃ S', callF (rows.map (·.fd)) Gs Wn k fi [.d (kInts ns)] [] = .ok (.d (.bl true)) S') :
    PySem.W.WalkO q loose XP YP l.row.toRowW d [] (fun f vs => PySem.call f vs) := by
  refine Att.attach_callB hn hdf fun w s₀ s₁ mg mb fa o pm cd doc a vs ns G Y ho hd hcd hmg hobj hints hlen hbits hg => ?_
  have KX := hY w _ Y
  obtain ⟨fs, cs, h1, h2, h3, h4, hb⟩ := F w
  obtain ⟨tx, one⟩ := text_of KX G.T.g hT hB h1 h2 h3 h4
  obtain ⟨r, hr1, hr2, hr3⟩ := hfi
  obtain ⟨p, e1, e2, e3⟩ := one fi r hr1
  have ea : (fs.map (·.1)).getD fi 0 = p.1 := by rw [List.getD_eq_getElem?_getD, List.getElem?_map, e1]; rfl
  have efa : p.1 = fa := by
    have q := PySem.W.mg_of KX G.T.g e2.ns
    rw [hr2, hmg] at q
    cases q
    rfl
  have ef : (rows.map (·.fd))[fi]? = some r.fd := by rw [List.getElem?_map, hr1]; rfl
  rw [hr3] at e3
  refine call_law (G := ⟨K w.params, fun i => (fs.map (·.1)).getD i 0, fun i => cs.getD i 0⟩) (F := callF (rows.map (·.fd)) Gs Wn k fi) KX G.T.g G.T.b G.T.builtins G.T.nolimit hg hobj hints (Nat.le_trans hlen hn2) hr hgr (fun base => ?_) (hb p e1) (law ns hlen hbits)
  have q := levels (P := l.prog) (w := w) (base := base) (Wn := Wn) tx k fi r.fd p.2 [x] ef e3
  have q2 : (fs.map (·.1)).getD fi 0 = fa := ea.trans efa
  show FnG l.prog w (K w.params) mg base k fa p.2 [x] (spM _ _)
  rw [← q2]
  exact q
end Mi

set_option maxHeartbeats 4000000
namespace K03
open PySem PySem.Spec PyProof.Rows L2 Mi
def topS (i : Nat) : Stmt := PySem.Challenge.pw_oneplainroll_k03_segments_that_meet.main.body.getD i (.Pass ⟨0, 0, 0, 0⟩)
/-- is_integer -/
def b0 : List Sx := [.ret (.andE [(.bi .isinst [(.var 0), (.typ "int")]), (.notE (.bi .isinst [(.var 0), (.typ "bool")]))])]
def n0 : List Str := ["value"]
/-- divisor -/
def b1 : List Sx := [.asgS [(.nm 0), (.nm 1)] (.tup [(.bi .abs [(.var 0)]), (.bi .abs [(.var 1)])]), .whl (.var 1) [.asgS [(.nm 0), (.nm 1)] (.tup [(.var 1), (.bin .Mod (.var 0) (.var 1))])], .ret (.var 0)]
def n1 : List Str := ["one", "other"]
/-- is_fraction -/
def b2 : List Sx := [.iff (.orE [(.notE (.bi .isinst [(.var 0), (.typ "tuple")])), (.cmp .NotEq (.bi .len [(.var 0)]) (.kI 2)), (.notE (.bi .all [(.lc (.call 0 [(.var 1)]) (.nm 1) (.var 0) [] [1])]))]) [.ret (.kB false)] [], .ret (.orE [(.cmp .Eq (.ix (.var 0) (.kI 1)) (.kI 1)), (.andE [(.cmp .Gt (.ix (.var 0) (.kI 1)) (.kI 1)), (.cmp .Eq (.call 1 [(.ix (.var 0) (.kI 0)), (.ix (.var 0) (.kI 1))]) (.kI 1))])])]
def n2 : List Str := ["value", "own"]
/-- low -/
def b3 : List Sx := [.iff (.cmp .Eq (.var 1) (.kI 1)) [.ret (.tup [(.var 0), (.kI 1)])] [], .iff (.cmp .Lt (.var 1) (.kI 0)) [.asgS [(.nm 0), (.nm 1)] (.tup [(.neg (.var 0)), (.neg (.var 1))])] [], .asg 2 (.call 1 [(.var 0), (.var 1)]), .ret (.tup [(.bin .FloorDiv (.var 0) (.var 2)), (.bin .FloorDiv (.var 1) (.var 2))])]
def n3 : List Str := ["up", "down", "part"]
/-- plus_in -/
def b4 : List Sx := [.ret (.call 3 [(.bin .Add (.bin .Mult (.ix (.var 0) (.kI 0)) (.ix (.var 1) (.kI 1))) (.bin .Mult (.ix (.var 1) (.kI 0)) (.ix (.var 0) (.kI 1)))), (.bin .Mult (.ix (.var 0) (.kI 1)) (.ix (.var 1) (.kI 1)))])]
def n4 : List Str := ["one", "other"]
/-- minus_in -/
def b5 : List Sx := [.ret (.call 3 [(.bin .Sub (.bin .Mult (.ix (.var 0) (.kI 0)) (.ix (.var 1) (.kI 1))) (.bin .Mult (.ix (.var 1) (.kI 0)) (.ix (.var 0) (.kI 1)))), (.bin .Mult (.ix (.var 0) (.kI 1)) (.ix (.var 1) (.kI 1)))])]
def n5 : List Str := ["one", "other"]
/-- times_in -/
def b6 : List Sx := [.ret (.call 3 [(.bin .Mult (.ix (.var 0) (.kI 0)) (.ix (.var 1) (.kI 0))), (.bin .Mult (.ix (.var 0) (.kI 1)) (.ix (.var 1) (.kI 1)))])]
def n6 : List Str := ["one", "other"]
/-- over_in -/
def b7 : List Sx := [.ret (.call 3 [(.bin .Mult (.ix (.var 0) (.kI 0)) (.ix (.var 1) (.kI 1))), (.bin .Mult (.ix (.var 0) (.kI 1)) (.ix (.var 1) (.kI 0)))])]
def n7 : List Str := ["one", "other"]
/-- before_in -/
def b8 : List Sx := [.ret (.cmp .Lt (.bin .Mult (.ix (.var 0) (.kI 0)) (.ix (.var 1) (.kI 1))) (.bin .Mult (.ix (.var 1) (.kI 0)) (.ix (.var 0) (.kI 1))))]
def n8 : List Str := ["one", "other"]
/-- is_point -/
def b9 : List Sx := [.ret (.andE [(.bi .isinst [(.var 0), (.typ "tuple")]), (.cmp .Eq (.bi .len [(.var 0)]) (.kI 2)), (.call 2 [(.ix (.var 0) (.kI 0))]), (.call 2 [(.ix (.var 0) (.kI 1))])])]
def n9 : List Str := ["value"]
/-- gap -/
def b10 : List Sx := [.ret (.tup [(.bin .Sub (.bin .Mult (.ix (.var 1) (.kI 0)) (.ix (.var 0) (.kI 1))) (.bin .Mult (.ix (.var 0) (.kI 0)) (.ix (.var 1) (.kI 1)))), (.bin .Mult (.ix (.var 1) (.kI 1)) (.ix (.var 0) (.kI 1)))])]
def n10 : List Str := ["one", "other"]
/-- turn_in -/
def b11 : List Sx := [.asgS [(.nm 3), (.nm 4)] (.tup [(.call 10 [(.ix (.var 0) (.kI 0)), (.ix (.var 1) (.kI 0))]), (.call 10 [(.ix (.var 0) (.kI 1)), (.ix (.var 1) (.kI 1))])]), .asgS [(.nm 5), (.nm 6)] (.tup [(.call 10 [(.ix (.var 0) (.kI 0)), (.ix (.var 2) (.kI 0))]), (.call 10 [(.ix (.var 0) (.kI 1)), (.ix (.var 2) (.kI 1))])]), .asg 7 (.bin .Mult (.bin .Mult (.bin .Mult (.ix (.var 3) (.kI 0)) (.ix (.var 6) (.kI 0))) (.ix (.var 4) (.kI 1))) (.ix (.var 5) (.kI 1))), .asg 8 (.bin .Mult (.bin .Mult (.bin .Mult (.ix (.var 4) (.kI 0)) (.ix (.var 5) (.kI 0))) (.ix (.var 3) (.kI 1))) (.ix (.var 6) (.kI 1))), .iff (.cmp .Eq (.var 7) (.var 8)) [.ret (.kI 0)] [], .ret (.ife (.cmp .Gt (.var 7) (.var 8)) (.kI 1) (.neg (.kI 1)))]
def n11 : List Str := ["a", "b", "c", "x", "y", "u", "v", "one", "other"]
/-- ahead -/
def b12 : List Sx := [.iff (.cmp .NotEq (.ix (.var 0) (.kI 0)) (.ix (.var 1) (.kI 0))) [.ret (.call 8 [(.ix (.var 0) (.kI 0)), (.ix (.var 1) (.kI 0))])] [], .ret (.call 8 [(.ix (.var 0) (.kI 1)), (.ix (.var 1) (.kI 1))])]
def n12 : List Str := ["one", "other"]
/-- rising -/
def b13 : List Sx := [.ret (.ife (.call 12 [(.var 1), (.var 0)]) (.tup [(.var 1), (.var 0)]) (.tup [(.var 0), (.var 1)]))]
def n13 : List Str := ["one", "other"]
/-- on_in -/
def b14 : List Sx := [.iff (.cmp .Eq (.var 0) (.var 1)) [.ret (.cmp .Eq (.var 2) (.var 0))] [], .iff (.cmp .NotEq (.call 11 [(.var 0), (.var 1), (.var 2)]) (.kI 0)) [.ret (.kB false)] [], .asgS [(.nm 3), (.nm 4)] (.call 13 [(.var 0), (.var 1)]), .ret (.andE [(.notE (.call 12 [(.var 2), (.var 3)])), (.notE (.call 12 [(.var 4), (.var 2)]))])]
def n14 : List Str := ["a", "b", "p", "first", "last"]
/-- cross -/
def b15 : List Sx := [.asg 4 (.call 6 [(.call 5 [(.ix (.var 1) (.kI 0)), (.ix (.var 0) (.kI 0))]), (.call 5 [(.ix (.var 3) (.kI 1)), (.ix (.var 2) (.kI 1))])]), .ret (.call 5 [(.var 4), (.call 6 [(.call 5 [(.ix (.var 1) (.kI 1)), (.ix (.var 0) (.kI 1))]), (.call 5 [(.ix (.var 3) (.kI 0)), (.ix (.var 2) (.kI 0))])])])]
def n15 : List Str := ["a", "b", "c", "d", "one"]
/-- part_in -/
def b16 : List Sx := [.ret (.tup [(.call 4 [(.ix (.var 0) (.kI 0)), (.call 6 [(.var 2), (.call 5 [(.ix (.var 1) (.kI 0)), (.ix (.var 0) (.kI 0))])])]), (.call 4 [(.ix (.var 0) (.kI 1)), (.call 6 [(.var 2), (.call 5 [(.ix (.var 1) (.kI 1)), (.ix (.var 0) (.kI 1))])])])])]
def n16 : List Str := ["a", "b", "share"]
/-- along_in -/
def b17 : List Sx := [.asgS [(.nm 4), (.nm 5)] (.tup [(.call 13 [(.var 0), (.var 1)]), (.call 13 [(.var 2), (.var 3)])]), .asg 6 (.ife (.call 12 [(.ix (.var 5) (.kI 0)), (.ix (.var 4) (.kI 0))]) (.ix (.var 4) (.kI 0)) (.ix (.var 5) (.kI 0))), .asg 7 (.ife (.call 12 [(.ix (.var 4) (.kI 1)), (.ix (.var 5) (.kI 1))]) (.ix (.var 4) (.kI 1)) (.ix (.var 5) (.kI 1))), .iff (.cmp .Eq (.var 6) (.var 7)) [.ret (.tup [(.kS "at"), (.var 6)])] [], .ret (.ife (.call 12 [(.var 6), (.var 7)]) (.tup [(.kS "along"), (.var 6), (.var 7)]) .kN)]
def n17 : List Str := ["a", "b", "c", "d", "one", "other", "first", "last"]
/-- meet_in -/
def b18 : List Sx := [.asgS [(.nm 4), (.nm 5)] (.tup [(.call 11 [(.var 0), (.var 1), (.var 2)]), (.call 11 [(.var 0), (.var 1), (.var 3)])]), .iff (.andE [(.cmp .Eq (.var 4) (.kI 0)), (.cmp .Eq (.var 5) (.kI 0))]) [.ret (.call 17 [(.var 0), (.var 1), (.var 2), (.var 3)])] [], .iff (.cmp .Eq (.var 4) (.var 5)) [.ret .kN] [], .asgS [(.nm 6), (.nm 7)] (.tup [(.call 11 [(.var 2), (.var 3), (.var 0)]), (.call 11 [(.var 2), (.var 3), (.var 1)])]), .iff (.cmp .Eq (.var 6) (.var 7)) [.ret .kN] [], .for (.seq [(.nm 8), (.nm 9)]) (.tup [(.tup [(.var 6), (.var 0)]), (.tup [(.var 7), (.var 1)]), (.tup [(.var 4), (.var 2)]), (.tup [(.var 5), (.var 3)])]) [.iff (.cmp .Eq (.var 8) (.kI 0)) [.ret (.call 19 [(.var 0), (.var 1), (.var 2), (.var 3), (.var 9)])] []], .ret (.tup [(.kS "at"), (.call 16 [(.var 0), (.var 1), (.call 7 [(.call 15 [(.var 0), (.var 2), (.var 2), (.var 3)]), (.call 15 [(.var 0), (.var 1), (.var 2), (.var 3)])])])])]
def n18 : List Str := ["a", "b", "c", "d", "c_side", "d_side", "a_side", "b_side", "side", "own"]
/-- touching -/
def b19 : List Sx := [.ret (.ife (.andE [(.call 14 [(.var 0), (.var 1), (.var 4)]), (.call 14 [(.var 2), (.var 3), (.var 4)])]) (.tup [(.kS "at"), (.var 4)]) .kN)]
def n19 : List Str := ["a", "b", "c", "d", "p"]
/-- check_points -/
def b20 : List Sx := [.for (.seq [(.nm 1), (.nm 2)]) (.var 0) [.iff (.notE (.call 9 [(.var 2)])) [.raise 1 [(.var 1)]] []]]
def n20 : List Str := ["rows", "name", "value"]
/-- turn -/
def b21 : List Sx := [.ex (.call 20 [(.tup [(.tup [(.kS "a"), (.var 0)]), (.tup [(.kS "b"), (.var 1)]), (.tup [(.kS "c"), (.var 2)])])]), .ret (.call 11 [(.var 0), (.var 1), (.var 2)])]
def n21 : List Str := ["a", "b", "c"]
/-- on -/
def b22 : List Sx := [.ex (.call 20 [(.tup [(.tup [(.kS "a"), (.var 0)]), (.tup [(.kS "b"), (.var 1)]), (.tup [(.kS "p"), (.var 2)])])]), .ret (.call 14 [(.var 0), (.var 1), (.var 2)])]
def n22 : List Str := ["a", "b", "p"]
/-- check_segment -/
def b23 : List Sx := [.ex (.call 20 [(.var 0)]), .iff (.cmp .Eq (.ix (.ix (.var 0) (.kI 0)) (.kI 1)) (.ix (.ix (.var 0) (.kI 1)) (.kI 1))) [.raise 1 [(.ix (.ix (.var 0) (.kI 1)) (.kI 0))]] []]
def n23 : List Str := ["rows"]
/-- meet -/
def b24 : List Sx := [.ex (.call 23 [(.tup [(.tup [(.kS "a"), (.var 0)]), (.tup [(.kS "b"), (.var 1)])])]), .ex (.call 23 [(.tup [(.tup [(.kS "c"), (.var 2)]), (.tup [(.kS "d"), (.var 3)])])]), .ret (.call 18 [(.var 0), (.var 1), (.var 2), (.var 3)])]
def n24 : List Str := ["a", "b", "c", "d"]
/-- _law_start -/
def b25 : List Sx := [.asg 1 (.kI 7), .for (.nm 2) (.var 0) [.asg 1 (.bin .Add (.bin .Mod (.bi .int [(.bin .Add (.bin .Mult (.var 1) (.kI 48271)) (.var 2))]) (.kI 2147483629)) (.kI 1))], .ret (.lst [(.bi .list [(.var 0)]), (.kI 0), (.kI 0), (.var 1)])]
def n25 : List Str := ["script", "seed", "cell"]
/-- _law_draw -/
def b26 : List Sx := [.iff (.andE [(.cmp .Eq (.ix (.var 0) (.kI 1)) (.kI 0)), (.cmp .GtE (.ix (.var 0) (.kI 2)) (.bi .len [(.ix (.var 0) (.kI 0))]))]) [.setix (.var 0) (.kI 3) (.bin .Mod (.bi .int [(.bin .Add (.bin .Mult (.ix (.var 0) (.kI 3)) (.kI 48271)) (.kI 69621))]) (.kI 2147483629)), .ret (.bin .Mod (.bi .int [(.bin .FloorDiv (.ix (.var 0) (.kI 3)) (.kI 13))]) (.var 1))] [], .iff (.cmp .Eq (.ix (.var 0) (.kI 1)) (.kI 0)) [.setix (.var 0) (.kI 1) (.bi .abs [(.ix (.ix (.var 0) (.kI 0)) (.ix (.var 0) (.kI 2)))]), .setix (.var 0) (.kI 2) (.bin .Add (.ix (.var 0) (.kI 2)) (.kI 1))] [], .asg 2 (.bin .Mod (.bi .int [(.ix (.var 0) (.kI 1))]) (.var 1)), .setix (.var 0) (.kI 1) (.bin .FloorDiv (.ix (.var 0) (.kI 1)) (.var 1)), .ret (.var 2)]
def n26 : List Str := ["cur", "many", "drawn"]
/-- _law_pick -/
def b27 : List Sx := [.ret (.ix (.var 1) (.call 26 [(.var 0), (.bi .len [(.var 1)])]))]
def n27 : List Str := ["cur", "some"]
/-- _law_same -/
def b28 : List Sx := [.ret (.andE [(.cmp .Eq (.var 0) (.var 1)), (.cmp .Eq (.bi .repr [(.var 0)]) (.bi .repr [(.var 1)]))])]
def n28 : List Str := ["actual", "due"]
/-- _law_low -/
def b29 : List Sx := [.asgS [(.nm 2), (.nm 3)] (.tup [(.bi .abs [(.var 0)]), (.bi .abs [(.var 1)])]), .for (.nm 4) (.rng [(.kI 9000)]) [.iff (.cmp .Eq (.var 3) (.kI 0)) [.brk] [], .asgS [(.nm 2), (.nm 3)] (.tup [(.var 3), (.bin .Sub (.var 2) (.bin .Mult (.bin .FloorDiv (.var 2) (.var 3)) (.var 3)))])], .ret (.ife (.cmp .Gt (.var 1) (.kI 0)) (.tup [(.bin .FloorDiv (.var 0) (.var 2)), (.bin .FloorDiv (.var 1) (.var 2))]) (.tup [(.bin .FloorDiv (.neg (.var 0)) (.var 2)), (.bin .FloorDiv (.neg (.var 1)) (.var 2))]))]
def n29 : List Str := ["up", "down", "one", "other", "k"]
/-- _law_ahead -/
def b30 : List Sx := [.ret (.cmp .Lt (.bin .Mult (.ix (.var 0) (.kI 0)) (.ix (.var 1) (.kI 1))) (.bin .Mult (.ix (.var 1) (.kI 0)) (.ix (.var 0) (.kI 1))))]
def n30 : List Str := ["one", "other"]
/-- _law_frame -/
def b31 : List Sx := [.asg 1 (.call 26 [(.var 0), (.kI 9)]), .asg 2 (.tup [(.bin .Add (.kI 1) (.var 1)), (.call 26 [(.var 0), (.kI 9)]), (.neg (.call 26 [(.var 0), (.kI 9)])), (.bin .Add (.kI 1) (.call 26 [(.var 0), (.kI 9)]))]), .asg 3 (.call 27 [(.var 0), (.lst [(.tup [(.kI 1), (.kI 0), (.kI 0), (.kI 1)]), (.tup [(.kI 1), (.kI 0), (.kI 0), (.kI 1)]), (.tup [(.kI 0), (.kI 1), (.kI 1), (.kI 0)]), (.tup [(.neg (.kI 1)), (.kI 0), (.kI 0), (.kI 1)]), (.tup [(.kI 2), (.kI 1), (.neg (.kI 1)), (.kI 3)]), (.var 2)])]), .asg 4 (.call 27 [(.var 0), (.lst [(.kI 1), (.kI 9), (.bin .Pow (.kI 10) (.kI 6))])]), .asg 5 (.call 27 [(.var 0), (.lst [(.tup [(.kI 1), (.kI 1)]), (.tup [(.kI 1), (.kI 1)]), (.tup [(.kI 7), (.kI 12)]), (.tup [(.bin .Add (.kI 1) (.call 26 [(.var 0), (.bin .Pow (.kI 10) (.kI 5))])), (.bin .Add (.kI 1) (.call 26 [(.var 0), (.bin .Pow (.kI 10) (.kI 5))]))])])]), .ret (.bin .Add (.bin .Add (.var 3) (.tup [(.bin .Sub (.call 26 [(.var 0), (.bin .Add (.bin .Mult (.kI 2) (.var 4)) (.kI 1))]) (.var 4)), (.bin .Sub (.call 26 [(.var 0), (.bin .Add (.bin .Mult (.kI 2) (.var 4)) (.kI 1))]) (.var 4))])) (.var 5))]
def n31 : List Str := ["cur", "one", "drawn", "matrix", "size", "below"]
/-- _law_point -/
def b32 : List Sx := [.asgS [(.seq [(.nm 2), (.nm 3)]), (.seq [(.nm 4), (.nm 5)])] (.var 1), .asgS [(.nm 6), (.nm 7), (.nm 8), (.nm 9), (.nm 10), (.nm 11), (.nm 12), (.nm 13)] (.var 0), .ret (.tup [(.call 29 [(.bin .Add (.bin .Add (.bin .Mult (.bin .Mult (.var 6) (.var 2)) (.var 5)) (.bin .Mult (.bin .Mult (.var 7) (.var 4)) (.var 3))) (.bin .Mult (.bin .Mult (.var 10) (.var 3)) (.var 5))), (.bin .Mult (.bin .Mult (.var 12) (.var 3)) (.var 5))]), (.call 29 [(.bin .Add (.bin .Add (.bin .Mult (.bin .Mult (.var 8) (.var 2)) (.var 5)) (.bin .Mult (.bin .Mult (.var 9) (.var 4)) (.var 3))) (.bin .Mult (.bin .Mult (.var 11) (.var 3)) (.var 5))), (.bin .Mult (.bin .Mult (.var 13) (.var 3)) (.var 5))])])]
def n32 : List Str := ["frame", "place", "x", "m", "y", "n", "p", "q", "r", "s", "u", "v", "w", "z"]
/-- _law_cross -/
def b33 : List Sx := [.ret (.bin .Sub (.bin .Mult (.bin .Sub (.ix (.var 1) (.kI 0)) (.ix (.var 0) (.kI 0))) (.bin .Sub (.ix (.var 2) (.kI 1)) (.ix (.var 0) (.kI 1)))) (.bin .Mult (.bin .Sub (.ix (.var 1) (.kI 1)) (.ix (.var 0) (.kI 1))) (.bin .Sub (.ix (.var 2) (.kI 0)) (.ix (.var 0) (.kI 0)))))]
def n33 : List Str := ["a", "b", "c"]
/-- _law_due -/
def b34 : List Sx := [.iff (.andE [(.cmp .Eq (.call 33 [(.var 0), (.var 1), (.var 2)]) (.kI 0)), (.cmp .Eq (.call 33 [(.var 0), (.var 1), (.var 3)]) (.kI 0))]) [.asgS [(.nm 4), (.nm 5)] (.tup [(.bi .max [(.lst [(.bi .min [(.lst [(.var 0), (.var 1)])]), (.bi .min [(.lst [(.var 2), (.var 3)])])])]), (.bi .min [(.lst [(.bi .max [(.lst [(.var 0), (.var 1)])]), (.bi .max [(.lst [(.var 2), (.var 3)])])])])]), .iff (.cmp .Gt (.var 4) (.var 5)) [.ret .kN] [], .ret (.lc (.tup [(.tup [(.ix (.var 6) (.kI 0)), (.kI 1)]), (.tup [(.ix (.var 6) (.kI 1)), (.kI 1)])]) (.nm 6) (.ife (.cmp .Eq (.var 4) (.var 5)) (.lst [(.var 4)]) (.lst [(.var 4), (.var 5)])) [] [6])] [], .asgS [(.nm 7), (.nm 8)] (.tup [(.call 33 [(.var 2), (.var 3), (.var 0)]), (.call 33 [(.var 2), (.var 3), (.var 1)])]), .asg 9 (.bin .Sub (.var 7) (.var 8)), .iff (.orE [(.cmp .Eq (.var 9) (.kI 0)), (.cmp .Lt (.bin .Mult (.var 7) (.var 9)) (.kI 0)), (.cmp .Gt (.bin .Mult (.var 7) (.var 9)) (.bin .Mult (.var 9) (.var 9)))]) [.ret .kN] [], .asg 10 (.lc (.call 29 [(.bin .Add (.bin .Mult (.ix (.var 0) (.var 11)) (.var 9)) (.bin .Mult (.var 7) (.bin .Sub (.ix (.var 1) (.var 11)) (.ix (.var 0) (.var 11))))), (.var 9)]) (.nm 11) (.lst [(.kI 0), (.kI 1)]) [] [11]), .asg 12 (.bin .Mult (.call 33 [(.var 0), (.var 1), (.var 2)]) (.call 33 [(.var 0), (.var 1), (.var 3)])), .ret (.ife (.cmp .LtE (.var 12) (.kI 0)) (.lst [(.bi .tuple [(.var 10)])]) .kN)]
def n34 : List Str := ["a", "b", "c", "d", "first", "last", "own", "one", "other", "whole", "p", "k", "side"]
/-- _law_told -/
def b35 : List Sx := [.iff (.cmp .Is (.var 1) .kN) [.ret .kN] [], .asg 2 (.lc (.call 32 [(.var 0), (.var 3)]) (.nm 3) (.var 1) [] [3]), .iff (.cmp .Eq (.bi .len [(.var 2)]) (.kI 1)) [.ret (.tup [(.kS "at"), (.ix (.var 2) (.kI 0))])] [], .asgS [(.nm 4), (.nm 5)] (.var 2), .asg 6 (.orE [(.call 30 [(.ix (.var 4) (.kI 0)), (.ix (.var 5) (.kI 0))]), (.andE [(.cmp .Eq (.ix (.var 4) (.kI 0)) (.ix (.var 5) (.kI 0))), (.call 30 [(.ix (.var 4) (.kI 1)), (.ix (.var 5) (.kI 1))])])]), .ret (.ife (.var 6) (.tup [(.kS "along"), (.var 4), (.var 5)]) (.tup [(.kS "along"), (.var 5), (.var 4)]))]
def n35 : List Str := ["frame", "due", "some", "own", "one", "other", "is_first"]
/-- _law_place -/
def b36 : List Sx := [.ret (.tup [(.bin .Sub (.call 26 [(.var 0), (.kI 7)]) (.kI 3)), (.bin .Sub (.call 26 [(.var 0), (.kI 7)]) (.kI 3))])]
def n36 : List Str := ["cur"]
/-- _law_other -/
def b37 : List Sx := [.asg 2 (.call 36 [(.var 0)]), .ret (.ife (.cmp .NotEq (.var 2) (.var 1)) (.var 2) (.tup [(.bin .Add (.ix (.var 1) (.kI 0)) (.kI 1)), (.bin .Sub (.ix (.var 1) (.kI 1)) (.call 26 [(.var 0), (.kI 3)]))]))]
def n37 : List Str := ["cur", "own", "place"]
/-- _law_ends -/
def b38 : List Sx := [.asg 3 (.call 26 [(.var 0), (.kI 4)]), .asg 4 (.ife (.cmp .Eq (.var 3) (.kI 0)) (.call 36 [(.var 0)]) (.call 27 [(.var 0), (.lst [(.var 1), (.var 2)])])), .asg 5 (.tup [(.bin .Sub (.ix (.var 2) (.kI 0)) (.ix (.var 1) (.kI 0))), (.bin .Sub (.ix (.var 2) (.kI 1)) (.ix (.var 1) (.kI 1)))]), .iff (.cmp .Eq (.var 3) (.kI 2)) [.asg 4 (.tup [(.bin .Add (.ix (.var 1) (.kI 0)) (.bin .Mult (.ix (.var 5) (.kI 0)) (.bin .Sub (.call 26 [(.var 0), (.kI 4)]) (.kI 1)))), (.bin .Add (.ix (.var 1) (.kI 1)) (.bin .Mult (.ix (.var 5) (.kI 1)) (.bin .Sub (.call 26 [(.var 0), (.kI 4)]) (.kI 1))))])] [], .iff (.cmp .Eq (.var 3) (.kI 3)) [.asg 6 (.bin .Sub (.call 26 [(.var 0), (.kI 5)]) (.kI 2)), .asg 4 (.tup [(.bin .Add (.ix (.var 1) (.kI 0)) (.bin .Mult (.var 6) (.ix (.var 5) (.kI 0)))), (.bin .Add (.ix (.var 1) (.kI 1)) (.bin .Mult (.var 6) (.ix (.var 5) (.kI 1))))]), .asg 7 (.call 27 [(.var 0), (.lc (.var 8) (.nm 8) (.lst [(.neg (.kI 3)), (.neg (.kI 1)), (.kI 0), (.kI 1), (.kI 2), (.kI 3)]) [(.cmp .NotEq (.var 8) (.var 6))] [8])]), .ret (.tup [(.var 4), (.tup [(.bin .Add (.ix (.var 1) (.kI 0)) (.bin .Mult (.var 7) (.ix (.var 5) (.kI 0)))), (.bin .Add (.ix (.var 1) (.kI 1)) (.bin .Mult (.var 7) (.ix (.var 5) (.kI 1))))])])] [], .ret (.tup [(.var 4), (.call 37 [(.var 0), (.var 4)])])]
def n38 : List Str := ["cur", "a", "b", "way", "c", "step", "k", "m", "own"]
/-- law -/
def b39 : List Sx := [.asgN 1 (.call 25 [(.var 0)]), .for (.nm 2) (.rng [(.kI 8)]) [.asgS [(.nm 3), (.nm 4)] (.tup [(.call 31 [(.var 1)]), (.call 36 [(.var 1)])]), .asg 5 (.call 37 [(.var 1), (.var 4)]), .asgS [(.nm 6), (.nm 7)] (.call 38 [(.var 1), (.var 4), (.var 5)]), .asg 8 (.call 35 [(.var 3), (.call 34 [(.var 4), (.var 5), (.var 6), (.var 7)])]), .asgS [(.nm 9), (.nm 10), (.nm 11), (.nm 12)] (.lc (.call 32 [(.var 3), (.tup [(.tup [(.ix (.var 13) (.kI 0)), (.kI 1)]), (.tup [(.ix (.var 13) (.kI 1)), (.kI 1)])])]) (.nm 13) (.lst [(.var 4), (.var 5), (.var 6), (.var 7)]) [] [13]), .asg 14 (.lst [(.call 24 [(.var 9), (.var 10), (.var 11), (.var 12)]), (.call 24 [(.var 10), (.var 9), (.var 11), (.var 12)]), (.call 24 [(.var 11), (.var 12), (.var 9), (.var 10)]), (.call 24 [(.var 12), (.var 11), (.var 10), (.var 9)])]), .iff (.orE [(.notE (.call 28 [(.var 14), (.bin .Mult (.lst [(.var 8)]) (.kI 4))])), (.notE (.call 28 [(.ix (.call 24 [(.var 9), (.var 10), (.var 9), (.var 10)]) (.kI 0)), (.kS "along")]))]) [.ret (.kB false)] [], .iff (.andE [(.cmp .IsNot (.var 8) .kN), (.cmp .Eq (.ix (.var 8) (.kI 0)) (.kS "at")), (.notE (.andE [(.call 22 [(.var 9), (.var 10), (.ix (.var 8) (.kI 1))]), (.call 22 [(.var 11), (.var 12), (.ix (.var 8) (.kI 1))]), (.cmp .Eq (.call 21 [(.var 9), (.var 10), (.ix (.var 8) (.kI 1))]) (.kI 0))]))]) [.ret (.kB false)] []], .ret (.kB true)]
def n39 : List Str := ["script", "cur", "turn_no", "frame", "a", "b", "c", "d", "due", "one", "other", "third", "last", "own", "told"]
def rows : List Rw := ([⟨"is_integer", topS 4, n0, ["value"], ⟨1, 1, b0⟩⟩,
  ⟨"divisor", topS 6, n1, ["one", "other"], ⟨2, 2, b1⟩⟩,
  ⟨"is_fraction", topS 7, n2, ["value"], ⟨1, 2, b2⟩⟩,
  ⟨"low", topS 8, n3, ["up", "down"], ⟨2, 3, b3⟩⟩,
  ⟨"plus_in", topS 9, n4, ["one", "other"], ⟨2, 2, b4⟩⟩,
  ⟨"minus_in", topS 10, n5, ["one", "other"], ⟨2, 2, b5⟩⟩,
  ⟨"times_in", topS 11, n6, ["one", "other"], ⟨2, 2, b6⟩⟩,
  ⟨"over_in", topS 12, n7, ["one", "other"], ⟨2, 2, b7⟩⟩,
  ⟨"before_in", topS 13, n8, ["one", "other"], ⟨2, 2, b8⟩⟩,
  ⟨"is_point", topS 15, n9, ["value"], ⟨1, 1, b9⟩⟩,
  ⟨"gap", topS 16, n10, ["one", "other"], ⟨2, 2, b10⟩⟩,
  ⟨"turn_in", topS 17, n11, ["a", "b", "c"], ⟨3, 9, b11⟩⟩,
  ⟨"ahead", topS 18, n12, ["one", "other"], ⟨2, 2, b12⟩⟩,
  ⟨"rising", topS 19, n13, ["one", "other"], ⟨2, 2, b13⟩⟩,
  ⟨"on_in", topS 20, n14, ["a", "b", "p"], ⟨3, 5, b14⟩⟩,
  ⟨"cross", topS 21, n15, ["a", "b", "c", "d"], ⟨4, 5, b15⟩⟩,
  ⟨"part_in", topS 22, n16, ["a", "b", "share"], ⟨3, 3, b16⟩⟩,
  ⟨"along_in", topS 23, n17, ["a", "b", "c", "d"], ⟨4, 8, b17⟩⟩,
  ⟨"meet_in", topS 24, n18, ["a", "b", "c", "d"], ⟨4, 10, b18⟩⟩,
  ⟨"touching", topS 25, n19, ["a", "b", "c", "d", "p"], ⟨5, 5, b19⟩⟩,
  ⟨"check_points", topS 26, n20, ["rows"], ⟨1, 3, b20⟩⟩,
  ⟨"turn", topS 27, n21, ["a", "b", "c"], ⟨3, 3, b21⟩⟩,
  ⟨"on", topS 28, n22, ["a", "b", "p"], ⟨3, 3, b22⟩⟩,
  ⟨"check_segment", topS 29, n23, ["rows"], ⟨1, 1, b23⟩⟩] : List Rw) ++
  ([⟨"meet", topS 30, n24, ["a", "b", "c", "d"], ⟨4, 4, b24⟩⟩,
  ⟨"_law_start", topS 32, n25, ["script"], ⟨1, 3, b25⟩⟩,
  ⟨"_law_draw", topS 33, n26, ["cur", "many"], ⟨2, 3, b26⟩⟩,
  ⟨"_law_pick", topS 34, n27, ["cur", "some"], ⟨2, 2, b27⟩⟩,
  ⟨"_law_same", topS 35, n28, ["actual", "due"], ⟨2, 2, b28⟩⟩,
  ⟨"_law_low", topS 36, n29, ["up", "down"], ⟨2, 5, b29⟩⟩,
  ⟨"_law_ahead", topS 37, n30, ["one", "other"], ⟨2, 2, b30⟩⟩,
  ⟨"_law_frame", topS 38, n31, ["cur"], ⟨1, 6, b31⟩⟩,
  ⟨"_law_point", topS 39, n32, ["frame", "place"], ⟨2, 14, b32⟩⟩,
  ⟨"_law_cross", topS 40, n33, ["a", "b", "c"], ⟨3, 3, b33⟩⟩,
  ⟨"_law_due", topS 41, n34, ["a", "b", "c", "d"], ⟨4, 13, b34⟩⟩,
  ⟨"_law_told", topS 42, n35, ["frame", "due"], ⟨2, 7, b35⟩⟩,
  ⟨"_law_place", topS 43, n36, ["cur"], ⟨1, 1, b36⟩⟩,
  ⟨"_law_other", topS 44, n37, ["cur", "own"], ⟨2, 3, b37⟩⟩,
  ⟨"_law_ends", topS 45, n38, ["cur", "a", "b"], ⟨3, 9, b38⟩⟩,
  ⟨"law", topS 46, n39, ["script"], ⟨1, 15, b39⟩⟩] : List Rw)
def tb : Tb := ⟨(["is_integer", "divisor", "is_fraction", "low", "plus_in", "minus_in", "times_in", "over_in", "before_in", "is_point", "gap", "turn_in", "ahead", "rising", "on_in", "cross", "part_in", "along_in", "meet_in", "touching", "check_points", "turn", "on", "check_segment"] : List Str) ++
  (["meet", "_law_start", "_law_draw", "_law_pick", "_law_same", "_law_low", "_law_ahead", "_law_frame", "_law_point", "_law_cross", "_law_due", "_law_told", "_law_place", "_law_other", "_law_ends", "law"] : List Str), [], [], ["abs", "all", "bool", "int", "isinstance", "len", "list", "max", "min", "range", "repr", "tuple"]⟩
def gs : List D := []
theorem rows_ok : rows.all (rowB tb) = true := by decide +kernel
theorem all_mk {K : PySem.W.Frag} {f0 : Addr} {od0 an0 : Option Addr} {sl0 : Array (Option Value)} {oc0 kV0 dc0 pm0 cd0 ct0 : Value} {f1 : Addr} {od1 an1 : Option Addr} {sl1 : Array (Option Value)} {oc1 kV1 dc1 pm1 cd1 ct1 : Value} {f2 : Addr} {od2 an2 : Option Addr} {sl2 : Array (Option Value)} {oc2 kV2 dc2 pm2 cd2 ct2 : Value} {f3 : Addr} {od3 an3 : Option Addr} {sl3 : Array (Option Value)} {oc3 kV3 dc3 pm3 cd3 ct3 : Value} {f4 : Addr} {od4 an4 : Option Addr} {sl4 : Array (Option Value)} {oc4 kV4 dc4 pm4 cd4 ct4 : Value} {f5 : Addr} {od5 an5 : Option Addr} {sl5 : Array (Option Value)} {oc5 kV5 dc5 pm5 cd5 ct5 : Value} {f6 : Addr} {od6 an6 : Option Addr} {sl6 : Array (Option Value)} {oc6 kV6 dc6 pm6 cd6 ct6 : Value} {f7 : Addr} {od7 an7 : Option Addr} {sl7 : Array (Option Value)} {oc7 kV7 dc7 pm7 cd7 ct7 : Value} {f8 : Addr} {od8 an8 : Option Addr} {sl8 : Array (Option Value)} {oc8 kV8 dc8 pm8 cd8 ct8 : Value} {f9 : Addr} {od9 an9 : Option Addr} {sl9 : Array (Option Value)} {oc9 kV9 dc9 pm9 cd9 ct9 : Value} {f10 : Addr} {od10 an10 : Option Addr} {sl10 : Array (Option Value)} {oc10 kV10 dc10 pm10 cd10 ct10 : Value} {f11 : Addr} {od11 an11 : Option Addr} {sl11 : Array (Option Value)} {oc11 kV11 dc11 pm11 cd11 ct11 : Value} {f12 : Addr} {od12 an12 : Option Addr} {sl12 : Array (Option Value)} {oc12 kV12 dc12 pm12 cd12 ct12 : Value} {f13 : Addr} {od13 an13 : Option Addr} {sl13 : Array (Option Value)} {oc13 kV13 dc13 pm13 cd13 ct13 : Value} {f14 : Addr} {od14 an14 : Option Addr} {sl14 : Array (Option Value)} {oc14 kV14 dc14 pm14 cd14 ct14 : Value} {f15 : Addr} {od15 an15 : Option Addr} {sl15 : Array (Option Value)} {oc15 kV15 dc15 pm15 cd15 ct15 : Value} {f16 : Addr} {od16 an16 : Option Addr} {sl16 : Array (Option Value)} {oc16 kV16 dc16 pm16 cd16 ct16 : Value} {f17 : Addr} {od17 an17 : Option Addr} {sl17 : Array (Option Value)} {oc17 kV17 dc17 pm17 cd17 ct17 : Value} {f18 : Addr} {od18 an18 : Option Addr} {sl18 : Array (Option Value)} {oc18 kV18 dc18 pm18 cd18 ct18 : Value} {f19 : Addr} {od19 an19 : Option Addr} {sl19 : Array (Option Value)} {oc19 kV19 dc19 pm19 cd19 ct19 : Value} {f20 : Addr} {od20 an20 : Option Addr} {sl20 : Array (Option Value)} {oc20 kV20 dc20 pm20 cd20 ct20 : Value} {f21 : Addr} {od21 an21 : Option Addr} {sl21 : Array (Option Value)} {oc21 kV21 dc21 pm21 cd21 ct21 : Value} {f22 : Addr} {od22 an22 : Option Addr} {sl22 : Array (Option Value)} {oc22 kV22 dc22 pm22 cd22 ct22 : Value} {f23 : Addr} {od23 an23 : Option Addr} {sl23 : Array (Option Value)} {oc23 kV23 dc23 pm23 cd23 ct23 : Value} {f24 : Addr} {od24 an24 : Option Addr} {sl24 : Array (Option Value)} {oc24 kV24 dc24 pm24 cd24 ct24 : Value} {f25 : Addr} {od25 an25 : Option Addr} {sl25 : Array (Option Value)} {oc25 kV25 dc25 pm25 cd25 ct25 : Value} {f26 : Addr} {od26 an26 : Option Addr} {sl26 : Array (Option Value)} {oc26 kV26 dc26 pm26 cd26 ct26 : Value} {f27 : Addr} {od27 an27 : Option Addr} {sl27 : Array (Option Value)} {oc27 kV27 dc27 pm27 cd27 ct27 : Value} {f28 : Addr} {od28 an28 : Option Addr} {sl28 : Array (Option Value)} {oc28 kV28 dc28 pm28 cd28 ct28 : Value} {f29 : Addr} {od29 an29 : Option Addr} {sl29 : Array (Option Value)} {oc29 kV29 dc29 pm29 cd29 ct29 : Value} {f30 : Addr} {od30 an30 : Option Addr} {sl30 : Array (Option Value)} {oc30 kV30 dc30 pm30 cd30 ct30 : Value} {f31 : Addr} {od31 an31 : Option Addr} {sl31 : Array (Option Value)} {oc31 kV31 dc31 pm31 cd31 ct31 : Value} {f32 : Addr} {od32 an32 : Option Addr} {sl32 : Array (Option Value)} {oc32 kV32 dc32 pm32 cd32 ct32 : Value} {f33 : Addr} {od33 an33 : Option Addr} {sl33 : Array (Option Value)} {oc33 kV33 dc33 pm33 cd33 ct33 : Value} {f34 : Addr} {od34 an34 : Option Addr} {sl34 : Array (Option Value)} {oc34 kV34 dc34 pm34 cd34 ct34 : Value} {f35 : Addr} {od35 an35 : Option Addr} {sl35 : Array (Option Value)} {oc35 kV35 dc35 pm35 cd35 ct35 : Value} {f36 : Addr} {od36 an36 : Option Addr} {sl36 : Array (Option Value)} {oc36 kV36 dc36 pm36 cd36 ct36 : Value} {f37 : Addr} {od37 an37 : Option Addr} {sl37 : Array (Option Value)} {oc37 kV37 dc37 pm37 cd37 ct37 : Value} {f38 : Addr} {od38 an38 : Option Addr} {sl38 : Array (Option Value)} {oc38 kV38 dc38 pm38 cd38 ct38 : Value} {f39 : Addr} {od39 an39 : Option Addr} {sl39 : Array (Option Value)} {oc39 kV39 dc39 pm39 cd39 ct39 : Value}
    (a0 : PySem.W.nsIn K mainGlobals "is_integer" = some (some (.ref f0))) (l0 : K.lookup f0 = some ⟨oc0, od0, .func (PySem.W.fnOf "is_integer" "is_integer" (defArgs (topS 4)) (defBody (topS 4)) (defScope (topS 4)) .none kV0 dc0 pm0 an0 cd0 ct0), sl0⟩) (c0 : PySem.W.codeIn K cd0 "is_integer" = true) (k0 : PySem.W.keepIn K (.ref f0) = true)
    (a1 : PySem.W.nsIn K mainGlobals "divisor" = some (some (.ref f1))) (l1 : K.lookup f1 = some ⟨oc1, od1, .func (PySem.W.fnOf "divisor" "divisor" (defArgs (topS 6)) (defBody (topS 6)) (defScope (topS 6)) .none kV1 dc1 pm1 an1 cd1 ct1), sl1⟩) (c1 : PySem.W.codeIn K cd1 "divisor" = true) (k1 : PySem.W.keepIn K (.ref f1) = true)
    (a2 : PySem.W.nsIn K mainGlobals "is_fraction" = some (some (.ref f2))) (l2 : K.lookup f2 = some ⟨oc2, od2, .func (PySem.W.fnOf "is_fraction" "is_fraction" (defArgs (topS 7)) (defBody (topS 7)) (defScope (topS 7)) .none kV2 dc2 pm2 an2 cd2 ct2), sl2⟩) (c2 : PySem.W.codeIn K cd2 "is_fraction" = true) (k2 : PySem.W.keepIn K (.ref f2) = true)
    (a3 : PySem.W.nsIn K mainGlobals "low" = some (some (.ref f3))) (l3 : K.lookup f3 = some ⟨oc3, od3, .func (PySem.W.fnOf "low" "low" (defArgs (topS 8)) (defBody (topS 8)) (defScope (topS 8)) .none kV3 dc3 pm3 an3 cd3 ct3), sl3⟩) (c3 : PySem.W.codeIn K cd3 "low" = true) (k3 : PySem.W.keepIn K (.ref f3) = true)
    (a4 : PySem.W.nsIn K mainGlobals "plus_in" = some (some (.ref f4))) (l4 : K.lookup f4 = some ⟨oc4, od4, .func (PySem.W.fnOf "plus_in" "plus_in" (defArgs (topS 9)) (defBody (topS 9)) (defScope (topS 9)) .none kV4 dc4 pm4 an4 cd4 ct4), sl4⟩) (c4 : PySem.W.codeIn K cd4 "plus_in" = true) (k4 : PySem.W.keepIn K (.ref f4) = true)
    (a5 : PySem.W.nsIn K mainGlobals "minus_in" = some (some (.ref f5))) (l5 : K.lookup f5 = some ⟨oc5, od5, .func (PySem.W.fnOf "minus_in" "minus_in" (defArgs (topS 10)) (defBody (topS 10)) (defScope (topS 10)) .none kV5 dc5 pm5 an5 cd5 ct5), sl5⟩) (c5 : PySem.W.codeIn K cd5 "minus_in" = true) (k5 : PySem.W.keepIn K (.ref f5) = true)
    (a6 : PySem.W.nsIn K mainGlobals "times_in" = some (some (.ref f6))) (l6 : K.lookup f6 = some ⟨oc6, od6, .func (PySem.W.fnOf "times_in" "times_in" (defArgs (topS 11)) (defBody (topS 11)) (defScope (topS 11)) .none kV6 dc6 pm6 an6 cd6 ct6), sl6⟩) (c6 : PySem.W.codeIn K cd6 "times_in" = true) (k6 : PySem.W.keepIn K (.ref f6) = true)
    (a7 : PySem.W.nsIn K mainGlobals "over_in" = some (some (.ref f7))) (l7 : K.lookup f7 = some ⟨oc7, od7, .func (PySem.W.fnOf "over_in" "over_in" (defArgs (topS 12)) (defBody (topS 12)) (defScope (topS 12)) .none kV7 dc7 pm7 an7 cd7 ct7), sl7⟩) (c7 : PySem.W.codeIn K cd7 "over_in" = true) (k7 : PySem.W.keepIn K (.ref f7) = true)
    (a8 : PySem.W.nsIn K mainGlobals "before_in" = some (some (.ref f8))) (l8 : K.lookup f8 = some ⟨oc8, od8, .func (PySem.W.fnOf "before_in" "before_in" (defArgs (topS 13)) (defBody (topS 13)) (defScope (topS 13)) .none kV8 dc8 pm8 an8 cd8 ct8), sl8⟩) (c8 : PySem.W.codeIn K cd8 "before_in" = true) (k8 : PySem.W.keepIn K (.ref f8) = true)
    (a9 : PySem.W.nsIn K mainGlobals "is_point" = some (some (.ref f9))) (l9 : K.lookup f9 = some ⟨oc9, od9, .func (PySem.W.fnOf "is_point" "is_point" (defArgs (topS 15)) (defBody (topS 15)) (defScope (topS 15)) .none kV9 dc9 pm9 an9 cd9 ct9), sl9⟩) (c9 : PySem.W.codeIn K cd9 "is_point" = true) (k9 : PySem.W.keepIn K (.ref f9) = true)
    (a10 : PySem.W.nsIn K mainGlobals "gap" = some (some (.ref f10))) (l10 : K.lookup f10 = some ⟨oc10, od10, .func (PySem.W.fnOf "gap" "gap" (defArgs (topS 16)) (defBody (topS 16)) (defScope (topS 16)) .none kV10 dc10 pm10 an10 cd10 ct10), sl10⟩) (c10 : PySem.W.codeIn K cd10 "gap" = true) (k10 : PySem.W.keepIn K (.ref f10) = true)
    (a11 : PySem.W.nsIn K mainGlobals "turn_in" = some (some (.ref f11))) (l11 : K.lookup f11 = some ⟨oc11, od11, .func (PySem.W.fnOf "turn_in" "turn_in" (defArgs (topS 17)) (defBody (topS 17)) (defScope (topS 17)) .none kV11 dc11 pm11 an11 cd11 ct11), sl11⟩) (c11 : PySem.W.codeIn K cd11 "turn_in" = true) (k11 : PySem.W.keepIn K (.ref f11) = true)
    (a12 : PySem.W.nsIn K mainGlobals "ahead" = some (some (.ref f12))) (l12 : K.lookup f12 = some ⟨oc12, od12, .func (PySem.W.fnOf "ahead" "ahead" (defArgs (topS 18)) (defBody (topS 18)) (defScope (topS 18)) .none kV12 dc12 pm12 an12 cd12 ct12), sl12⟩) (c12 : PySem.W.codeIn K cd12 "ahead" = true) (k12 : PySem.W.keepIn K (.ref f12) = true)
    (a13 : PySem.W.nsIn K mainGlobals "rising" = some (some (.ref f13))) (l13 : K.lookup f13 = some ⟨oc13, od13, .func (PySem.W.fnOf "rising" "rising" (defArgs (topS 19)) (defBody (topS 19)) (defScope (topS 19)) .none kV13 dc13 pm13 an13 cd13 ct13), sl13⟩) (c13 : PySem.W.codeIn K cd13 "rising" = true) (k13 : PySem.W.keepIn K (.ref f13) = true)
    (a14 : PySem.W.nsIn K mainGlobals "on_in" = some (some (.ref f14))) (l14 : K.lookup f14 = some ⟨oc14, od14, .func (PySem.W.fnOf "on_in" "on_in" (defArgs (topS 20)) (defBody (topS 20)) (defScope (topS 20)) .none kV14 dc14 pm14 an14 cd14 ct14), sl14⟩) (c14 : PySem.W.codeIn K cd14 "on_in" = true) (k14 : PySem.W.keepIn K (.ref f14) = true)
    (a15 : PySem.W.nsIn K mainGlobals "cross" = some (some (.ref f15))) (l15 : K.lookup f15 = some ⟨oc15, od15, .func (PySem.W.fnOf "cross" "cross" (defArgs (topS 21)) (defBody (topS 21)) (defScope (topS 21)) .none kV15 dc15 pm15 an15 cd15 ct15), sl15⟩) (c15 : PySem.W.codeIn K cd15 "cross" = true) (k15 : PySem.W.keepIn K (.ref f15) = true)
    (a16 : PySem.W.nsIn K mainGlobals "part_in" = some (some (.ref f16))) (l16 : K.lookup f16 = some ⟨oc16, od16, .func (PySem.W.fnOf "part_in" "part_in" (defArgs (topS 22)) (defBody (topS 22)) (defScope (topS 22)) .none kV16 dc16 pm16 an16 cd16 ct16), sl16⟩) (c16 : PySem.W.codeIn K cd16 "part_in" = true) (k16 : PySem.W.keepIn K (.ref f16) = true)
    (a17 : PySem.W.nsIn K mainGlobals "along_in" = some (some (.ref f17))) (l17 : K.lookup f17 = some ⟨oc17, od17, .func (PySem.W.fnOf "along_in" "along_in" (defArgs (topS 23)) (defBody (topS 23)) (defScope (topS 23)) .none kV17 dc17 pm17 an17 cd17 ct17), sl17⟩) (c17 : PySem.W.codeIn K cd17 "along_in" = true) (k17 : PySem.W.keepIn K (.ref f17) = true)
    (a18 : PySem.W.nsIn K mainGlobals "meet_in" = some (some (.ref f18))) (l18 : K.lookup f18 = some ⟨oc18, od18, .func (PySem.W.fnOf "meet_in" "meet_in" (defArgs (topS 24)) (defBody (topS 24)) (defScope (topS 24)) .none kV18 dc18 pm18 an18 cd18 ct18), sl18⟩) (c18 : PySem.W.codeIn K cd18 "meet_in" = true) (k18 : PySem.W.keepIn K (.ref f18) = true)
    (a19 : PySem.W.nsIn K mainGlobals "touching" = some (some (.ref f19))) (l19 : K.lookup f19 = some ⟨oc19, od19, .func (PySem.W.fnOf "touching" "touching" (defArgs (topS 25)) (defBody (topS 25)) (defScope (topS 25)) .none kV19 dc19 pm19 an19 cd19 ct19), sl19⟩) (c19 : PySem.W.codeIn K cd19 "touching" = true) (k19 : PySem.W.keepIn K (.ref f19) = true)
    (a20 : PySem.W.nsIn K mainGlobals "check_points" = some (some (.ref f20))) (l20 : K.lookup f20 = some ⟨oc20, od20, .func (PySem.W.fnOf "check_points" "check_points" (defArgs (topS 26)) (defBody (topS 26)) (defScope (topS 26)) .none kV20 dc20 pm20 an20 cd20 ct20), sl20⟩) (c20 : PySem.W.codeIn K cd20 "check_points" = true) (k20 : PySem.W.keepIn K (.ref f20) = true)
    (a21 : PySem.W.nsIn K mainGlobals "turn" = some (some (.ref f21))) (l21 : K.lookup f21 = some ⟨oc21, od21, .func (PySem.W.fnOf "turn" "turn" (defArgs (topS 27)) (defBody (topS 27)) (defScope (topS 27)) .none kV21 dc21 pm21 an21 cd21 ct21), sl21⟩) (c21 : PySem.W.codeIn K cd21 "turn" = true) (k21 : PySem.W.keepIn K (.ref f21) = true)
    (a22 : PySem.W.nsIn K mainGlobals "on" = some (some (.ref f22))) (l22 : K.lookup f22 = some ⟨oc22, od22, .func (PySem.W.fnOf "on" "on" (defArgs (topS 28)) (defBody (topS 28)) (defScope (topS 28)) .none kV22 dc22 pm22 an22 cd22 ct22), sl22⟩) (c22 : PySem.W.codeIn K cd22 "on" = true) (k22 : PySem.W.keepIn K (.ref f22) = true)
    (a23 : PySem.W.nsIn K mainGlobals "check_segment" = some (some (.ref f23))) (l23 : K.lookup f23 = some ⟨oc23, od23, .func (PySem.W.fnOf "check_segment" "check_segment" (defArgs (topS 29)) (defBody (topS 29)) (defScope (topS 29)) .none kV23 dc23 pm23 an23 cd23 ct23), sl23⟩) (c23 : PySem.W.codeIn K cd23 "check_segment" = true) (k23 : PySem.W.keepIn K (.ref f23) = true)
    (a24 : PySem.W.nsIn K mainGlobals "meet" = some (some (.ref f24))) (l24 : K.lookup f24 = some ⟨oc24, od24, .func (PySem.W.fnOf "meet" "meet" (defArgs (topS 30)) (defBody (topS 30)) (defScope (topS 30)) .none kV24 dc24 pm24 an24 cd24 ct24), sl24⟩) (c24 : PySem.W.codeIn K cd24 "meet" = true) (k24 : PySem.W.keepIn K (.ref f24) = true)
    (a25 : PySem.W.nsIn K mainGlobals "_law_start" = some (some (.ref f25))) (l25 : K.lookup f25 = some ⟨oc25, od25, .func (PySem.W.fnOf "_law_start" "_law_start" (defArgs (topS 32)) (defBody (topS 32)) (defScope (topS 32)) .none kV25 dc25 pm25 an25 cd25 ct25), sl25⟩) (c25 : PySem.W.codeIn K cd25 "_law_start" = true) (k25 : PySem.W.keepIn K (.ref f25) = true)
    (a26 : PySem.W.nsIn K mainGlobals "_law_draw" = some (some (.ref f26))) (l26 : K.lookup f26 = some ⟨oc26, od26, .func (PySem.W.fnOf "_law_draw" "_law_draw" (defArgs (topS 33)) (defBody (topS 33)) (defScope (topS 33)) .none kV26 dc26 pm26 an26 cd26 ct26), sl26⟩) (c26 : PySem.W.codeIn K cd26 "_law_draw" = true) (k26 : PySem.W.keepIn K (.ref f26) = true)
    (a27 : PySem.W.nsIn K mainGlobals "_law_pick" = some (some (.ref f27))) (l27 : K.lookup f27 = some ⟨oc27, od27, .func (PySem.W.fnOf "_law_pick" "_law_pick" (defArgs (topS 34)) (defBody (topS 34)) (defScope (topS 34)) .none kV27 dc27 pm27 an27 cd27 ct27), sl27⟩) (c27 : PySem.W.codeIn K cd27 "_law_pick" = true) (k27 : PySem.W.keepIn K (.ref f27) = true)
    (a28 : PySem.W.nsIn K mainGlobals "_law_same" = some (some (.ref f28))) (l28 : K.lookup f28 = some ⟨oc28, od28, .func (PySem.W.fnOf "_law_same" "_law_same" (defArgs (topS 35)) (defBody (topS 35)) (defScope (topS 35)) .none kV28 dc28 pm28 an28 cd28 ct28), sl28⟩) (c28 : PySem.W.codeIn K cd28 "_law_same" = true) (k28 : PySem.W.keepIn K (.ref f28) = true)
    (a29 : PySem.W.nsIn K mainGlobals "_law_low" = some (some (.ref f29))) (l29 : K.lookup f29 = some ⟨oc29, od29, .func (PySem.W.fnOf "_law_low" "_law_low" (defArgs (topS 36)) (defBody (topS 36)) (defScope (topS 36)) .none kV29 dc29 pm29 an29 cd29 ct29), sl29⟩) (c29 : PySem.W.codeIn K cd29 "_law_low" = true) (k29 : PySem.W.keepIn K (.ref f29) = true)
    (a30 : PySem.W.nsIn K mainGlobals "_law_ahead" = some (some (.ref f30))) (l30 : K.lookup f30 = some ⟨oc30, od30, .func (PySem.W.fnOf "_law_ahead" "_law_ahead" (defArgs (topS 37)) (defBody (topS 37)) (defScope (topS 37)) .none kV30 dc30 pm30 an30 cd30 ct30), sl30⟩) (c30 : PySem.W.codeIn K cd30 "_law_ahead" = true) (k30 : PySem.W.keepIn K (.ref f30) = true)
    (a31 : PySem.W.nsIn K mainGlobals "_law_frame" = some (some (.ref f31))) (l31 : K.lookup f31 = some ⟨oc31, od31, .func (PySem.W.fnOf "_law_frame" "_law_frame" (defArgs (topS 38)) (defBody (topS 38)) (defScope (topS 38)) .none kV31 dc31 pm31 an31 cd31 ct31), sl31⟩) (c31 : PySem.W.codeIn K cd31 "_law_frame" = true) (k31 : PySem.W.keepIn K (.ref f31) = true)
    (a32 : PySem.W.nsIn K mainGlobals "_law_point" = some (some (.ref f32))) (l32 : K.lookup f32 = some ⟨oc32, od32, .func (PySem.W.fnOf "_law_point" "_law_point" (defArgs (topS 39)) (defBody (topS 39)) (defScope (topS 39)) .none kV32 dc32 pm32 an32 cd32 ct32), sl32⟩) (c32 : PySem.W.codeIn K cd32 "_law_point" = true) (k32 : PySem.W.keepIn K (.ref f32) = true)
    (a33 : PySem.W.nsIn K mainGlobals "_law_cross" = some (some (.ref f33))) (l33 : K.lookup f33 = some ⟨oc33, od33, .func (PySem.W.fnOf "_law_cross" "_law_cross" (defArgs (topS 40)) (defBody (topS 40)) (defScope (topS 40)) .none kV33 dc33 pm33 an33 cd33 ct33), sl33⟩) (c33 : PySem.W.codeIn K cd33 "_law_cross" = true) (k33 : PySem.W.keepIn K (.ref f33) = true)
    (a34 : PySem.W.nsIn K mainGlobals "_law_due" = some (some (.ref f34))) (l34 : K.lookup f34 = some ⟨oc34, od34, .func (PySem.W.fnOf "_law_due" "_law_due" (defArgs (topS 41)) (defBody (topS 41)) (defScope (topS 41)) .none kV34 dc34 pm34 an34 cd34 ct34), sl34⟩) (c34 : PySem.W.codeIn K cd34 "_law_due" = true) (k34 : PySem.W.keepIn K (.ref f34) = true)
    (a35 : PySem.W.nsIn K mainGlobals "_law_told" = some (some (.ref f35))) (l35 : K.lookup f35 = some ⟨oc35, od35, .func (PySem.W.fnOf "_law_told" "_law_told" (defArgs (topS 42)) (defBody (topS 42)) (defScope (topS 42)) .none kV35 dc35 pm35 an35 cd35 ct35), sl35⟩) (c35 : PySem.W.codeIn K cd35 "_law_told" = true) (k35 : PySem.W.keepIn K (.ref f35) = true)
    (a36 : PySem.W.nsIn K mainGlobals "_law_place" = some (some (.ref f36))) (l36 : K.lookup f36 = some ⟨oc36, od36, .func (PySem.W.fnOf "_law_place" "_law_place" (defArgs (topS 43)) (defBody (topS 43)) (defScope (topS 43)) .none kV36 dc36 pm36 an36 cd36 ct36), sl36⟩) (c36 : PySem.W.codeIn K cd36 "_law_place" = true) (k36 : PySem.W.keepIn K (.ref f36) = true)
    (a37 : PySem.W.nsIn K mainGlobals "_law_other" = some (some (.ref f37))) (l37 : K.lookup f37 = some ⟨oc37, od37, .func (PySem.W.fnOf "_law_other" "_law_other" (defArgs (topS 44)) (defBody (topS 44)) (defScope (topS 44)) .none kV37 dc37 pm37 an37 cd37 ct37), sl37⟩) (c37 : PySem.W.codeIn K cd37 "_law_other" = true) (k37 : PySem.W.keepIn K (.ref f37) = true)
    (a38 : PySem.W.nsIn K mainGlobals "_law_ends" = some (some (.ref f38))) (l38 : K.lookup f38 = some ⟨oc38, od38, .func (PySem.W.fnOf "_law_ends" "_law_ends" (defArgs (topS 45)) (defBody (topS 45)) (defScope (topS 45)) .none kV38 dc38 pm38 an38 cd38 ct38), sl38⟩) (c38 : PySem.W.codeIn K cd38 "_law_ends" = true) (k38 : PySem.W.keepIn K (.ref f38) = true)
    (a39 : PySem.W.nsIn K mainGlobals "law" = some (some (.ref f39))) (l39 : K.lookup f39 = some ⟨oc39, od39, .func (PySem.W.fnOf "law" "law" (defArgs (topS 46)) (defBody (topS 46)) (defScope (topS 46)) .none kV39 dc39 pm39 an39 cd39 ct39), sl39⟩) (c39 : PySem.W.codeIn K cd39 "law" = true) (k39 : PySem.W.keepIn K (.ref f39) = true)
    (z0 : PySem.W.nsIn K mainGlobals "abs" = some none)
    (z1 : PySem.W.nsIn K mainGlobals "all" = some none)
    (z2 : PySem.W.nsIn K mainGlobals "bool" = some none)
    (z3 : PySem.W.nsIn K mainGlobals "int" = some none)
    (z4 : PySem.W.nsIn K mainGlobals "isinstance" = some none)
    (z5 : PySem.W.nsIn K mainGlobals "len" = some none)
    (z6 : PySem.W.nsIn K mainGlobals "list" = some none)
    (z7 : PySem.W.nsIn K mainGlobals "max" = some none)
    (z8 : PySem.W.nsIn K mainGlobals "min" = some none)
    (z9 : PySem.W.nsIn K mainGlobals "range" = some none)
    (z10 : PySem.W.nsIn K mainGlobals "repr" = some none)
    (z11 : PySem.W.nsIn K mainGlobals "tuple" = some none) :
    ∃ (fs : List (Addr × FuncData)) (cs : List Addr), Paired (DefR K) rows fs ∧ Paired (GlbR K) tb.gls gs ∧ Paired (fun x a => PySem.W.nsIn K mainGlobals x = some (some (.ref a))) tb.cls cs ∧ (∀ y ∈ tb.blt, PySem.W.nsIn K mainGlobals y = some none) ∧ ∀ p, fs[39]? = some p → ∀ (s : Shared) (u : Value), BindsTo s p.2 ⟨[u], []⟩ [("script", u)] := by
  have r0 := defR_mk (r := ⟨"is_integer", topS 4, n0, ["value"], ⟨1, 1, b0⟩⟩) a0 l0 c0 k0 fun _ _ _ _ _ _ us hl => match us, hl with | [_], _ => rfl
  have r1 := defR_mk (r := ⟨"divisor", topS 6, n1, ["one", "other"], ⟨2, 2, b1⟩⟩) a1 l1 c1 k1 fun _ _ _ _ _ _ us hl => match us, hl with | [_, _], _ => rfl
  have r2 := defR_mk (r := ⟨"is_fraction", topS 7, n2, ["value"], ⟨1, 2, b2⟩⟩) a2 l2 c2 k2 fun _ _ _ _ _ _ us hl => match us, hl with | [_], _ => rfl
  have r3 := defR_mk (r := ⟨"low", topS 8, n3, ["up", "down"], ⟨2, 3, b3⟩⟩) a3 l3 c3 k3 fun _ _ _ _ _ _ us hl => match us, hl with | [_, _], _ => rfl
  have r4 := defR_mk (r := ⟨"plus_in", topS 9, n4, ["one", "other"], ⟨2, 2, b4⟩⟩) a4 l4 c4 k4 fun _ _ _ _ _ _ us hl => match us, hl with | [_, _], _ => rfl
  have r5 := defR_mk (r := ⟨"minus_in", topS 10, n5, ["one", "other"], ⟨2, 2, b5⟩⟩) a5 l5 c5 k5 fun _ _ _ _ _ _ us hl => match us, hl with | [_, _], _ => rfl
  have r6 := defR_mk (r := ⟨"times_in", topS 11, n6, ["one", "other"], ⟨2, 2, b6⟩⟩) a6 l6 c6 k6 fun _ _ _ _ _ _ us hl => match us, hl with | [_, _], _ => rfl
  have r7 := defR_mk (r := ⟨"over_in", topS 12, n7, ["one", "other"], ⟨2, 2, b7⟩⟩) a7 l7 c7 k7 fun _ _ _ _ _ _ us hl => match us, hl with | [_, _], _ => rfl
  have r8 := defR_mk (r := ⟨"before_in", topS 13, n8, ["one", "other"], ⟨2, 2, b8⟩⟩) a8 l8 c8 k8 fun _ _ _ _ _ _ us hl => match us, hl with | [_, _], _ => rfl
  have r9 := defR_mk (r := ⟨"is_point", topS 15, n9, ["value"], ⟨1, 1, b9⟩⟩) a9 l9 c9 k9 fun _ _ _ _ _ _ us hl => match us, hl with | [_], _ => rfl
  have r10 := defR_mk (r := ⟨"gap", topS 16, n10, ["one", "other"], ⟨2, 2, b10⟩⟩) a10 l10 c10 k10 fun _ _ _ _ _ _ us hl => match us, hl with | [_, _], _ => rfl
  have r11 := defR_mk (r := ⟨"turn_in", topS 17, n11, ["a", "b", "c"], ⟨3, 9, b11⟩⟩) a11 l11 c11 k11 fun _ _ _ _ _ _ us hl => match us, hl with | [_, _, _], _ => rfl
  have r12 := defR_mk (r := ⟨"ahead", topS 18, n12, ["one", "other"], ⟨2, 2, b12⟩⟩) a12 l12 c12 k12 fun _ _ _ _ _ _ us hl => match us, hl with | [_, _], _ => rfl
  have r13 := defR_mk (r := ⟨"rising", topS 19, n13, ["one", "other"], ⟨2, 2, b13⟩⟩) a13 l13 c13 k13 fun _ _ _ _ _ _ us hl => match us, hl with | [_, _], _ => rfl
  have r14 := defR_mk (r := ⟨"on_in", topS 20, n14, ["a", "b", "p"], ⟨3, 5, b14⟩⟩) a14 l14 c14 k14 fun _ _ _ _ _ _ us hl => match us, hl with | [_, _, _], _ => rfl
  have r15 := defR_mk (r := ⟨"cross", topS 21, n15, ["a", "b", "c", "d"], ⟨4, 5, b15⟩⟩) a15 l15 c15 k15 fun _ _ _ _ _ _ us hl => match us, hl with | [_, _, _, _], _ => rfl
  have r16 := defR_mk (r := ⟨"part_in", topS 22, n16, ["a", "b", "share"], ⟨3, 3, b16⟩⟩) a16 l16 c16 k16 fun _ _ _ _ _ _ us hl => match us, hl with | [_, _, _], _ => rfl
  have r17 := defR_mk (r := ⟨"along_in", topS 23, n17, ["a", "b", "c", "d"], ⟨4, 8, b17⟩⟩) a17 l17 c17 k17 fun _ _ _ _ _ _ us hl => match us, hl with | [_, _, _, _], _ => rfl
  have r18 := defR_mk (r := ⟨"meet_in", topS 24, n18, ["a", "b", "c", "d"], ⟨4, 10, b18⟩⟩) a18 l18 c18 k18 fun _ _ _ _ _ _ us hl => match us, hl with | [_, _, _, _], _ => rfl
  have r19 := defR_mk (r := ⟨"touching", topS 25, n19, ["a", "b", "c", "d", "p"], ⟨5, 5, b19⟩⟩) a19 l19 c19 k19 fun _ _ _ _ _ _ us hl => match us, hl with | [_, _, _, _, _], _ => rfl
  have r20 := defR_mk (r := ⟨"check_points", topS 26, n20, ["rows"], ⟨1, 3, b20⟩⟩) a20 l20 c20 k20 fun _ _ _ _ _ _ us hl => match us, hl with | [_], _ => rfl
  have r21 := defR_mk (r := ⟨"turn", topS 27, n21, ["a", "b", "c"], ⟨3, 3, b21⟩⟩) a21 l21 c21 k21 fun _ _ _ _ _ _ us hl => match us, hl with | [_, _, _], _ => rfl
  have r22 := defR_mk (r := ⟨"on", topS 28, n22, ["a", "b", "p"], ⟨3, 3, b22⟩⟩) a22 l22 c22 k22 fun _ _ _ _ _ _ us hl => match us, hl with | [_, _, _], _ => rfl
  have r23 := defR_mk (r := ⟨"check_segment", topS 29, n23, ["rows"], ⟨1, 1, b23⟩⟩) a23 l23 c23 k23 fun _ _ _ _ _ _ us hl => match us, hl with | [_], _ => rfl
  have r24 := defR_mk (r := ⟨"meet", topS 30, n24, ["a", "b", "c", "d"], ⟨4, 4, b24⟩⟩) a24 l24 c24 k24 fun _ _ _ _ _ _ us hl => match us, hl with | [_, _, _, _], _ => rfl
  have r25 := defR_mk (r := ⟨"_law_start", topS 32, n25, ["script"], ⟨1, 3, b25⟩⟩) a25 l25 c25 k25 fun _ _ _ _ _ _ us hl => match us, hl with | [_], _ => rfl
  have r26 := defR_mk (r := ⟨"_law_draw", topS 33, n26, ["cur", "many"], ⟨2, 3, b26⟩⟩) a26 l26 c26 k26 fun _ _ _ _ _ _ us hl => match us, hl with | [_, _], _ => rfl
  have r27 := defR_mk (r := ⟨"_law_pick", topS 34, n27, ["cur", "some"], ⟨2, 2, b27⟩⟩) a27 l27 c27 k27 fun _ _ _ _ _ _ us hl => match us, hl with | [_, _], _ => rfl
  have r28 := defR_mk (r := ⟨"_law_same", topS 35, n28, ["actual", "due"], ⟨2, 2, b28⟩⟩) a28 l28 c28 k28 fun _ _ _ _ _ _ us hl => match us, hl with | [_, _], _ => rfl
  have r29 := defR_mk (r := ⟨"_law_low", topS 36, n29, ["up", "down"], ⟨2, 5, b29⟩⟩) a29 l29 c29 k29 fun _ _ _ _ _ _ us hl => match us, hl with | [_, _], _ => rfl
  have r30 := defR_mk (r := ⟨"_law_ahead", topS 37, n30, ["one", "other"], ⟨2, 2, b30⟩⟩) a30 l30 c30 k30 fun _ _ _ _ _ _ us hl => match us, hl with | [_, _], _ => rfl
  have r31 := defR_mk (r := ⟨"_law_frame", topS 38, n31, ["cur"], ⟨1, 6, b31⟩⟩) a31 l31 c31 k31 fun _ _ _ _ _ _ us hl => match us, hl with | [_], _ => rfl
  have r32 := defR_mk (r := ⟨"_law_point", topS 39, n32, ["frame", "place"], ⟨2, 14, b32⟩⟩) a32 l32 c32 k32 fun _ _ _ _ _ _ us hl => match us, hl with | [_, _], _ => rfl
  have r33 := defR_mk (r := ⟨"_law_cross", topS 40, n33, ["a", "b", "c"], ⟨3, 3, b33⟩⟩) a33 l33 c33 k33 fun _ _ _ _ _ _ us hl => match us, hl with | [_, _, _], _ => rfl
  have r34 := defR_mk (r := ⟨"_law_due", topS 41, n34, ["a", "b", "c", "d"], ⟨4, 13, b34⟩⟩) a34 l34 c34 k34 fun _ _ _ _ _ _ us hl => match us, hl with | [_, _, _, _], _ => rfl
  have r35 := defR_mk (r := ⟨"_law_told", topS 42, n35, ["frame", "due"], ⟨2, 7, b35⟩⟩) a35 l35 c35 k35 fun _ _ _ _ _ _ us hl => match us, hl with | [_, _], _ => rfl
  have r36 := defR_mk (r := ⟨"_law_place", topS 43, n36, ["cur"], ⟨1, 1, b36⟩⟩) a36 l36 c36 k36 fun _ _ _ _ _ _ us hl => match us, hl with | [_], _ => rfl
  have r37 := defR_mk (r := ⟨"_law_other", topS 44, n37, ["cur", "own"], ⟨2, 3, b37⟩⟩) a37 l37 c37 k37 fun _ _ _ _ _ _ us hl => match us, hl with | [_, _], _ => rfl
  have r38 := defR_mk (r := ⟨"_law_ends", topS 45, n38, ["cur", "a", "b"], ⟨3, 9, b38⟩⟩) a38 l38 c38 k38 fun _ _ _ _ _ _ us hl => match us, hl with | [_, _, _], _ => rfl
  have r39 := defR_mk (r := ⟨"law", topS 46, n39, ["script"], ⟨1, 15, b39⟩⟩) a39 l39 c39 k39 fun _ _ _ _ _ _ us hl => match us, hl with | [_], _ => rfl
  refine ⟨_, [], (.cons r0 (.cons r1 (.cons r2 (.cons r3 (.cons r4 (.cons r5 (.cons r6 (.cons r7 (.cons r8 (.cons r9 (.cons r10 (.cons r11 (.cons r12 (.cons r13 (.cons r14 (.cons r15 (.cons r16 (.cons r17 (.cons r18 (.cons r19 (.cons r20 (.cons r21 (.cons r22 (.cons r23 (.cons r24 (.cons r25 (.cons r26 (.cons r27 (.cons r28 (.cons r29 (.cons r30 (.cons r31 (.cons r32 (.cons r33 (.cons r34 (.cons r35 (.cons r36 (.cons r37 (.cons r38 (.cons r39 .nil)))))))))))))))))))))))))))))))))))))))), .nil, .nil, fun y hy => ?_, fun p hp s u => ?_⟩
  · have hy : y ∈ [("abs" : Str), ("all" : Str), ("bool" : Str), ("int" : Str), ("isinstance" : Str), ("len" : Str), ("list" : Str), ("max" : Str), ("min" : Str), ("range" : Str), ("repr" : Str), ("tuple" : Str)] := hy
    simp only [List.mem_cons, List.not_mem_nil, or_false] at hy
    rcases hy with e | e | e | e | e | e | e | e | e | e | e | e
    · rw [e]; exact z0
    · rw [e]; exact z1
    · rw [e]; exact z2
    · rw [e]; exact z3
    · rw [e]; exact z4
    · rw [e]; exact z5
    · rw [e]; exact z6
    · rw [e]; exact z7
    · rw [e]; exact z8
    · rw [e]; exact z9
    · rw [e]; exact z10
    · rw [e]; exact z11
  · cases hp
    exact .of_eq rfl
end K03

set_option maxHeartbeats 2000000
/-! how the interpreter steps, as equations -/
namespace Mi
open PySem (Str Operator CmpOp)
section
variable (Fs : Fns) (Gs : List D) (W : Nat) (E : Env) (S : Store)
theorem e_kN : (sem Fs Gs .kN).ev E S = .ok (.d .non) S := rfl
theorem e_kB (b : Bool) : (sem Fs Gs (.kB b)).ev E S = .ok (.d (.bl b)) S := rfl
theorem e_kI (i : Int) : (sem Fs Gs (.kI i)).ev E S = .ok (.d (.int i)) S := rfl
theorem e_kS (x : Str) : (sem Fs Gs (.kS x)).ev E S = .ok (.d (.str x)) S := rfl
theorem e_var (i : Nat) : (sem Fs Gs (.var i)).ev E S = R.of (getV E i) S := rfl
theorem e_glb (g : Nat) : (sem Fs Gs (.glb g)).ev E S = R.of ((Gs[g]?).map .d) S := rfl
theorem e_fnv (f : Nat) : (sem Fs Gs (.fnv f)).ev E S = .ok (.d (.fn f)) S := rfl
theorem e_typ (n : String) : (sem Fs Gs (.typ n)).ev E S = .ok (.d (.ty n)) S := rfl
theorem e_neg (a : Ex) : (sem Fs Gs (.neg a)).ev E S = ((sem Fs Gs a).ev E S).bind fun v S1 => R.of ((v.peek S1).bind negD) S1 := rfl
theorem e_bin (op : Operator) (a b : Ex) : (sem Fs Gs (.bin op a b)).ev E S = ((sem Fs Gs a).ev E S).bind fun v S1 => ((sem Fs Gs b).ev E S1).bind fun u S2 => R.of ((v.peek S2).bind fun x => (u.peek S2).bind fun y => binD op x y) S2 := rfl
theorem e_cmp (op : CmpOp) (a b : Ex) : (sem Fs Gs (.cmp op a b)).ev E S = ((sem Fs Gs a).ev E S).bind fun v S1 => ((sem Fs Gs b).ev E S1).bind fun u S2 => R.of ((v.peek S2).bind fun x => (u.peek S2).bind fun y => cmpV op x y) S2 := rfl
theorem e_chn (o1 o2 : CmpOp) (a b c : Ex) : (sem Fs Gs (.chn o1 o2 a b c)).ev E S = chain o1 o2 (sem Fs Gs a) (sem Fs Gs b) (sem Fs Gs c) E S := rfl
theorem e_and (es : List Ex) : (sem Fs Gs (.andE es)).ev E S = evAnd (sems Fs Gs es) E S := rfl
theorem e_or (es : List Ex) : (sem Fs Gs (.orE es)).ev E S = evOr (sems Fs Gs es) E S := rfl
theorem e_not (a : Ex) : (sem Fs Gs (.notE a)).ev E S = ((sem Fs Gs a).ev E S).bind fun v S1 => R.of ((v.peek S1).bind notD) S1 := rfl
theorem e_ife (t a b : Ex) : (sem Fs Gs (.ife t a b)).ev E S = ((sem Fs Gs t).ts E S).bind fun c S1 => if c then (sem Fs Gs a).ev E S1 else (sem Fs Gs b).ev E S1 := rfl
theorem e_tup (es : List Ex) : (sem Fs Gs (.tup es)).ev E S = (evAll (sems Fs Gs es) E S).bind fun vs S1 => R.of ((strictAll vs).bind fun xs => if xs.length ≤ PySem.sizeLine then some (.d (.tup xs)) else none) S1 := rfl
theorem e_lst (es : List Ex) : (sem Fs Gs (.lst es)).ev E S = (evAll (sems Fs Gs es) E S).bind fun vs S1 => R.of ((strictAll vs).bind fun xs => if xs.length ≤ PySem.sizeLine then some (.own (.lst xs)) else none) S1 := rfl
theorem e_ix (a i : Ex) : (sem Fs Gs (.ix a i)).ev E S = ((sem Fs Gs a).ev E S).bind fun v S1 => ((sem Fs Gs i).ev E S1).bind fun u S2 => R.of ((v.peek S2).bind fun x => (u.peek S2).bind fun y => (ixD x y).map .d) S2 := rfl
theorem e_slc (a : Ex) (lo hi : Option Ex) : (sem Fs Gs (.slc a lo hi)).ev E S = ((sem Fs Gs a).ev E S).bind fun v S1 => (evPart (semo Fs Gs lo) E S1).bind fun l S2 => (evPart (semo Fs Gs hi) E S2).bind fun h S3 => R.of ((v.peek S3).bind fun x => slcD x l h) S3 := rfl
theorem e_call (f : Nat) (es : List Ex) : (sem Fs Gs (.call f es)).ev E S = (evAll (sems Fs Gs es) E S).bind fun vs S1 => (R.of (argsOf vs) S1).bind fun ws S1 => Fs f ws S1 := rfl
theorem e_bi (b : BI) (es : List Ex) : (sem Fs Gs (.bi b es)).ev E S = (evAll (sems Fs Gs es) E S).bind fun vs S1 => R.of ((peeks S1 vs).bind (biD b)) S1 := rfl
theorem e_mt (m : MT) (a : Ex) (es : List Ex) : (sem Fs Gs (.mt m a es)).ev E S = ((sem Fs Gs a).ev E S).bind fun x S1 => (R.of (recv m x S1) S1).bind fun _ S1 => (evAll (sems Fs Gs es) E S1).bind fun vs S2 => (R.of (strictAll vs) S2).bind fun xs S2 => mtV m x xs S2 := rfl
theorem e_lc (e : Ex) (tg : Tg) (it : Ex) (ifs : List Ex) (vs : List Nat) : (sem Fs Gs (.lc e tg it ifs vs)).ev E S = ((sem Fs Gs it).it E S).bind fun xs S1 => ((turns tg vs (tsAll (sems Fs Gs ifs)) (strict (sem Fs Gs e)) E xs [] S1).calm).bind fun ys S2 => .ok (.own (.lst ys)) S2 := rfl
theorem e_dc (k v : Ex) (tg : Tg) (it : Ex) (ifs : List Ex) (vs : List Nat) : (sem Fs Gs (.dc k v tg it ifs vs)).ev E S = ((sem Fs Gs it).it E S).bind fun xs S1 => ((turnsD tg vs (tsAll (sems Fs Gs ifs)) (strict2 (sem Fs Gs k) (sem Fs Gs v)) E xs ([], []) S1).calm).bind fun ys S2 => .ok (.own (.dct ys.1 ys.2)) S2 := rfl
/-! tests -/
theorem t_and (es : List Ex) : (sem Fs Gs (.andE es)).ts E S = tsAnd (sems Fs Gs es) E S := rfl
theorem t_or (es : List Ex) : (sem Fs Gs (.orE es)).ts E S = tsOr (sems Fs Gs es) E S := rfl
theorem t_not (a : Ex) : (sem Fs Gs (.notE a)).ts E S = ((sem Fs Gs a).ts E S).bind fun b S1 => .ok (!b) S1 := rfl
theorem t_var (i : Nat) : (sem Fs Gs (.var i)).ts E S = ((sem Fs Gs (.var i)).ev E S).bind fun v S1 => R.of ((v.peek S1).bind truD) S1 := rfl
theorem t_cmp (op : CmpOp) (a b : Ex) : (sem Fs Gs (.cmp op a b)).ts E S = ((sem Fs Gs (.cmp op a b)).ev E S).bind fun v S1 => R.of ((v.peek S1).bind truD) S1 := rfl
theorem t_chn (o1 o2 : CmpOp) (a b c : Ex) : (sem Fs Gs (.chn o1 o2 a b c)).ts E S = ((sem Fs Gs (.chn o1 o2 a b c)).ev E S).bind fun v S1 => R.of ((v.peek S1).bind truD) S1 := rfl
theorem t_call (f : Nat) (es : List Ex) : (sem Fs Gs (.call f es)).ts E S = ((sem Fs Gs (.call f es)).ev E S).bind fun v S1 => R.of ((v.peek S1).bind truD) S1 := rfl
theorem t_bi (b : BI) (es : List Ex) : (sem Fs Gs (.bi b es)).ts E S = ((sem Fs Gs (.bi b es)).ev E S).bind fun v S1 => R.of ((v.peek S1).bind truD) S1 := rfl
theorem t_ix (a b : Ex) : (sem Fs Gs (.ix a b)).ts E S = ((sem Fs Gs (.ix a b)).ev E S).bind fun v S1 => R.of ((v.peek S1).bind truD) S1 := rfl
/-! what is walked -/
theorem i_var (i : Nat) : (sem Fs Gs (.var i)).it E S = ((sem Fs Gs (.var i)).ev E S).bind fun v S1 => R.of (v.dat.bind itemsOf) S1 := rfl
theorem i_call (f : Nat) (es : List Ex) : (sem Fs Gs (.call f es)).it E S = ((sem Fs Gs (.call f es)).ev E S).bind fun v S1 => R.of (v.dat.bind itemsOf) S1 := rfl
theorem i_bi (b : BI) (es : List Ex) : (sem Fs Gs (.bi b es)).it E S = ((sem Fs Gs (.bi b es)).ev E S).bind fun v S1 => R.of (v.dat.bind itemsOf) S1 := rfl
theorem i_rng (es : List Ex) : (sem Fs Gs (.rng es)).it E S = (evAll (sems Fs Gs es) E S).bind fun vs S1 => R.of ((strictAll vs).bind rngD) S1 := rfl
theorem i_zip (es : List Ex) : (sem Fs Gs (.zip es)).it E S = (evAll (sems Fs Gs es) E S).bind fun vs S1 => R.of ((strictAll vs).bind zipA) S1 := rfl
/-! lists -/
theorem ss_nil : sems Fs Gs [] = [] := rfl
theorem ss_cons (e : Ex) (r : List Ex) : sems Fs Gs (e :: r) = sem Fs Gs e :: sems Fs Gs r := rfl
theorem so_none : semo Fs Gs none = none := rfl
theorem so_some (e : Ex) : semo Fs Gs (some e) = some (sem Fs Gs e) := rfl
theorem ea_nil : evAll [] E S = .ok [] S := rfl
theorem ea_cons (m : Sm) (r : List Sm) : evAll (m :: r) E S = (m.ev E S).bind fun v S1 => (evAll r E S1).bind fun vs S2 => .ok (v :: vs) S2 := rfl
theorem an_1 (m : Sm) : evAnd [m] E S = m.ev E S := rfl
theorem an_2 (m m2 : Sm) (r : List Sm) : evAnd (m :: m2 :: r) E S = (m.ev E S).bind fun v S1 => match v with
    | .d (.bl true) => evAnd (m2 :: r) E S1
    | .d (.bl false) => .ok (.d (.bl false)) S1
    | _ => .no := rfl
theorem or_1 (m : Sm) : evOr [m] E S = m.ev E S := rfl
theorem or_2 (m m2 : Sm) (r : List Sm) : evOr (m :: m2 :: r) E S = (m.ev E S).bind fun v S1 => match v with
    | .d (.bl false) => evOr (m2 :: r) E S1
    | .d (.bl true) => .ok (.d (.bl true)) S1
    | _ => .no := rfl
theorem tan_1 (m : Sm) : tsAnd [m] E S = m.ts E S := rfl
theorem tan_2 (m m2 : Sm) (r : List Sm) : tsAnd (m :: m2 :: r) E S = (m.ts E S).bind fun c S1 => if c then tsAnd (m2 :: r) E S1 else .ok false S1 := rfl
theorem tor_1 (m : Sm) : tsOr [m] E S = m.ts E S := rfl
theorem tor_2 (m m2 : Sm) (r : List Sm) : tsOr (m :: m2 :: r) E S = (m.ts E S).bind fun c S1 => if c then .ok true S1 else tsOr (m2 :: r) E S1 := rfl
theorem tal_0 : tsAll [] E S = .ok true S := rfl
theorem tal_1 (m : Sm) : tsAll [m] E S = m.ts E S := rfl
theorem ep_0 : evPart none E S = .ok none S := rfl
theorem ep_1 (m : Sm) : evPart (some m) E S = (m.ev E S).bind fun v S1 => match v with
    | .d (.int i) => .ok (some i) S1
    | _ => .no := rfl
theorem st_ (m : Sm) : strict m E S = (m.ev E S).bind fun v S1 => R.of v.dat S1 := rfl
theorem st2_ (k v : Sm) : strict2 k v E S = (k.ev E S).bind fun x S1 => (v.ev E S1).bind fun y S2 => R.of ((x.dat.bind asKey).bind fun q => y.dat.map fun z => (q, z)) S2 := rfl
theorem tu_nil (tg : Tg) (vs : List Nat) (t : Env → Store → R Bool) (g : Env → Store → R D) (acc : List D) : turns tg vs t g E [] acc S = .ok acc S := rfl
theorem tu_cons (tg : Tg) (vs : List Nat) (t : Env → Store → R Bool) (g : Env → Store → R D) (x : D) (r acc : List D) {E' : Env} (h : asgT tg x (wipeE E vs) = some E') : turns tg vs t g E (x :: r) acc S = (t E' S).bind fun b S1 => if b then (g E' S1).bind fun y S2 => turns tg vs t g E r (acc ++ [y]) S2 else turns tg vs t g E r acc S1 := by
  rw [turns, h]
theorem tu_c (tg : Tg) (vs : List Nat) (t : Env → Store → R Bool) (g : Env → Store → R D) (x : D) (r acc : List D) : turns tg vs t g E (x :: r) acc S = match asgT tg x (wipeE E vs) with
    | none => .no
    | some E' => (t E' S).bind fun b S1 => if b then (g E' S1).bind fun y S2 => turns tg vs t g E r (acc ++ [y]) S2 else turns tg vs t g E r acc S1 := by
  rw [turns] <;> (cases asgT tg x (wipeE E vs) <;> rfl)
theorem w_0 : wipeE E [] = E := rfl
theorem w_s (v : Nat) (vs : List Nat) : wipeE E (v :: vs) = (wipeE E vs).set v none := rfl
theorem ca_ok {α : Type} (a : α) : (R.ok a S).calm = .ok a S := rfl
theorem at1 (a : D) : L2.atI [a] 0 = some a := rfl
theorem at2_0 (a b : D) : L2.atI [a, b] 0 = some a := rfl
theorem at2_1 (a b : D) : L2.atI [a, b] 1 = some b := rfl
theorem at4_0 (a b c d : D) : L2.atI [a, b, c, d] 0 = some a := rfl
theorem at4_1 (a b c d : D) : L2.atI [a, b, c, d] 1 = some b := rfl
theorem at4_2 (a b c d : D) : L2.atI [a, b, c, d] 2 = some c := rfl
theorem at4_3 (a b c d : D) : L2.atI [a, b, c, d] 3 = some d := rfl
theorem bo_nil : boolsOf [] = some [] := rfl
theorem bo_c (b : Bool) (r : List D) : boolsOf (.bl b :: r) = (boolsOf r).map (b :: ·) := rfl
theorem io_nil : intsOf [] = some [] := rfl
theorem io_c (b : Int) (r : List D) : intsOf (.int b :: r) = (intsOf r).map (b :: ·) := rfl
theorem is_int (i : Int) : biD .isinst [.int i, .ty "int"] = some (.d (.bl true)) := rfl
theorem is_intb (i : Int) : biD .isinst [.int i, .ty "bool"] = some (.d (.bl false)) := rfl
theorem is_tup (xs : List D) : biD .isinst [.tup xs, .ty "tuple"] = some (.d (.bl true)) := rfl
/-! slots -/
theorem g_0 (x : Option Val) : getV (x :: E) 0 = x := rfl
theorem g_s (x : Option Val) (n : Nat) : getV (x :: E) (n + 1) = getV E n := rfl
/-! values -/
theorem p_d (x : D) : (Val.d x).peek S = some x := rfl
theorem p_own (c : Cell) : (Val.own c).peek S = c.dat := rfl
theorem p_ref (l : Nat) : (Val.ref l).peek S = (S[l]?).bind Cell.dat := rfl
theorem d_d (x : D) : (Val.d x).dat = some x := rfl
theorem d_own (c : Cell) : (Val.own c).dat = c.dat := rfl
theorem a_d (x : D) : (Val.d x).arg = some (.d x) := rfl
theorem a_own (c : Cell) : (Val.own c).arg = c.dat.map .d := rfl
theorem a_ref (l : Nat) : (Val.ref l).arg = some (.ref l) := rfl
theorem c_lst (xs : List D) : (Cell.lst xs).dat = some (.lst xs) := rfl
theorem c_dct (ks : List L2.Key) (xs : List D) : (Cell.dct ks xs).dat = some (.dct ks xs) := rfl
theorem pk_nil : peeks S [] = some [] := rfl
theorem pk_cons (v : Val) (r : List Val) : peeks S (v :: r) = (v.peek S).bind fun x => (peeks S r).map (x :: ·) := rfl
theorem sa_nil : strictAll [] = some [] := rfl
theorem sa_cons (v : Val) (r : List Val) : strictAll (v :: r) = v.dat.bind fun x => (strictAll r).map (x :: ·) := rfl
theorem ao_nil : argsOf [] = some [] := rfl
theorem ao_cons (v : Val) (r : List Val) : argsOf (v :: r) = v.arg.bind fun x => (argsOf r).map (x :: ·) := rfl
/-! operators -/
theorem b_add (i j : Int) : binD .Add (.int i) (.int j) = some (.d (.int (i + j))) := rfl
theorem b_sub (i j : Int) : binD .Sub (.int i) (.int j) = some (.d (.int (i - j))) := rfl
theorem b_mul (i j : Int) : binD .Mult (.int i) (.int j) = if cmulB i j then some (.d (.int (i * j))) else none := rfl
theorem b_div (i j : Int) : binD .FloorDiv (.int i) (.int j) = if cdivB j then some (.d (.int (i / j))) else none := rfl
theorem b_mod (i j : Int) : binD .Mod (.int i) (.int j) = if 0 < j then some (.d (.int (i % j))) else none := rfl
theorem b_pow (i j : Int) : binD .Pow (.int i) (.int j) = if cpowB i j then some (.d (.int (i ^ j.toNat))) else none := rfl
theorem b_cat (xs ys : List D) : binD .Add (.lst xs) (.lst ys) = if xs.length + ys.length ≤ PySem.sizeLine then some (.own (.lst (xs ++ ys))) else none := rfl
theorem n_int (i : Int) : negD (.int i) = some (.d (.int (-i))) := rfl
theorem n_bl (b : Bool) : notD (.bl b) = some (.d (.bl !b)) := rfl
theorem cv (op : CmpOp) (x y : D) : cmpV op x y = (cmpD op x y).map fun b => .d (.bl b) := rfl
theorem c_eq (x y : D) : cmpD .Eq x y = eqD x y := rfl
theorem c_ne (x y : D) : cmpD .NotEq x y = (eqD x y).map (!·) := rfl
theorem c_lt (i j : Int) : cmpD .Lt (.int i) (.int j) = some (decide (i < j)) := rfl
theorem c_le (i j : Int) : cmpD .LtE (.int i) (.int j) = some (decide (i ≤ j)) := rfl
theorem c_gt (i j : Int) : cmpD .Gt (.int i) (.int j) = some (decide (j < i)) := rfl
theorem c_ge (i j : Int) : cmpD .GtE (.int i) (.int j) = some (decide (j ≤ i)) := rfl
theorem c_in (a : D) (xs : List D) : cmpD .In a (.lst xs) = inD a (.lst xs) := by cases a <;> rfl
theorem c_notIn (a : D) (xs : List D) : cmpD .NotIn a (.lst xs) = (inD a (.lst xs)).map (!·) := by cases a <;> rfl
theorem eq_int (i j : Int) : eqD (.int i) (.int j) = some (i == j) := by
  show (D.int i).py.bind (fun x => (D.int j).py.bind fun y => if PySem.SeqAt.shaped x && PySem.SeqAt.shaped y then some (PySem.PyData.eqv x y) else none) = _
  unfold D.py
  simp only [Option.bind_some]
  rw [if_pos (show (PySem.SeqAt.shaped (.int i) && PySem.SeqAt.shaped (.int j)) = true from rfl)]
  rfl
theorem eq_str (x y : Str) : eqD (.str x) (.str y) = some (decide (x = y)) := rfl
theorem x_lst (xs : List D) (i : Int) : ixD (.lst xs) (.int i) = L2.atI xs i := rfl
theorem x_tup (xs : List D) (i : Int) : ixD (.tup xs) (.int i) = L2.atI xs i := rfl
theorem x_dct (ks : List L2.Key) (vs : List D) (k : D) : ixD (.dct ks vs) k = (asKey k).bind fun q => lookD q ks vs := by cases k <;> rfl
theorem tr_bl (b : Bool) : truD (.bl b) = some b := rfl
theorem tr_int (i : Int) : truD (.int i) = some (i != 0) := rfl
theorem bi_len (xs : List D) : biD .len [.lst xs] = some (.d (.int xs.length)) := rfl
theorem bi_lent (xs : List D) : biD .len [.tup xs] = some (.d (.int xs.length)) := rfl
theorem bi_abs (i : Int) : biD .abs [.int i] = some (.d (.int (i.natAbs : Int))) := by
  show some (Val.d (.int (if i < 0 then -i else i))) = _
  congr 3
  split <;> omega
theorem bi_int (i : Int) : biD .int [.int i] = some (.d (.int i)) := rfl
theorem bi_all (xs : List D) : biD .all [.lst xs] = (boolsOf xs).map fun bs => .d (.bl (bs.all id)) := rfl
theorem bi_list (xs : List D) : biD .list [.lst xs] = some (.own (.lst xs)) := rfl
theorem bi_listk (xs : List D) : biD .list [.klst xs] = some (.own (.lst xs)) := rfl
theorem bi_listt (xs : List D) : biD .list [.tup xs] = some (.own (.lst xs)) := rfl
theorem bi_tuple (xs : List D) : biD .tuple [.lst xs] = some (.d (.tup xs)) := rfl
theorem bi_tuplet (xs : List D) : biD .tuple [.tup xs] = some (.d (.tup xs)) := rfl
theorem io_lst (xs : List D) : itemsOf (.lst xs) = some xs := rfl
theorem io_klst (xs : List D) : itemsOf (.klst xs) = some xs := rfl
theorem io_tup (xs : List D) : itemsOf (.tup xs) = some xs := rfl
/-! statements -/
theorem k_nil : semB Fs Gs W [] E S = .ok (.nx, E) S := rfl
theorem k_cons (s : Sx) (r : List Sx) : semB Fs Gs W (s :: r) E S = (semS Fs Gs W s E S).bind fun p S1 => match p.1 with
    | .nx => semB Fs Gs W r p.2 S1
    | f => .ok (f, p.2) S1 := rfl
theorem k_asg (i : Nat) (e : Ex) : semS Fs Gs W (.asg i e) E S = ((sem Fs Gs e).ev E S).bind fun v S1 => lift (v.arg.bind fun w => if i < E.length then some (E.set i (some w)) else none) S1 := rfl
theorem k_asgS (ts : List Tg) (e : Ex) : semS Fs Gs W (.asgS ts e) E S = ((sem Fs Gs e).ev E S).bind fun v S1 => lift (v.dat.bind fun x => asgT (.seq ts) x E) S1 := rfl
theorem k_asgN (i : Nat) (e : Ex) : semS Fs Gs W (.asgN i e) E S = ((sem Fs Gs e).ev E S).bind fun v S1 => match v with
    | .own c => if i < E.length then .ok (.nx, E.set i (some (.ref S1.length))) (S1 ++ [c]) else .no
    | _ => .no := rfl
theorem k_setix (o i e : Ex) : semS Fs Gs W (.setix o i e) E S = ((sem Fs Gs e).ev E S).bind fun v S1 => ((sem Fs Gs o).ev E S1).bind fun l S2 => ((sem Fs Gs i).ev E S2).bind fun k S3 =>
      (R.of (v.dat.bind fun x => k.dat.bind fun y => setAt l y x S3) S3).bind fun S4 _ => .ok (.nx, E) S4 := rfl
theorem k_ex (e : Ex) : semS Fs Gs W (.ex e) E S = ((sem Fs Gs e).ev E S).bind fun _ S1 => .ok (.nx, E) S1 := rfl
theorem k_ret (e : Ex) : semS Fs Gs W (.ret e) E S = ((sem Fs Gs e).ev E S).bind fun v S1 => .ok (.rt v, E) S1 := rfl
theorem k_retN : semS Fs Gs W .retN E S = .ok (.rt (.d .non), E) S := rfl
theorem k_iff (t : Ex) (a b : List Sx) : semS Fs Gs W (.iff t a b) E S = ((sem Fs Gs t).ts E S).bind fun c S1 => if c then semB Fs Gs W a E S1 else semB Fs Gs W b E S1 := rfl
theorem k_whl (t : Ex) (b : List Sx) : semS Fs Gs W (.whl t b) E S = whileN (sem Fs Gs t).ts (semB Fs Gs W b) W E S := rfl
theorem k_for (tg : Tg) (it : Ex) (b : List Sx) : semS Fs Gs W (.for tg it b) E S = ((sem Fs Gs it).it E S).bind fun xs S1 => loop (fun x E S => (R.of (asgT tg x E) S).bind fun E' S => semB Fs Gs W b E' S) xs E S1 := rfl
theorem k_brk : semS Fs Gs W .brk E S = .ok (.bk, E) S := rfl
theorem k_cont : semS Fs Gs W .cont E S = .ok (.ct, E) S := rfl
theorem lo_nil (b : D → SM) : loop b [] E S = .ok (.nx, E) S := rfl
theorem lo_cons (b : D → SM) (x : D) (r : List D) : loop b (x :: r) E S = (b x E S).bind fun p S1 => match p.1 with
    | .nx => loop b r p.2 S1
    | .ct => loop b r p.2 S1
    | .bk => .ok (.nx, p.2) S1
    | .rt v => .ok (.rt v, p.2) S1 := rfl
theorem li_some (E' : Env) : lift (some E') S = .ok (.nx, E') S := rfl
theorem as_nm (i : Nat) (x : D) : asgT (.nm i) x E = if i < E.length then some (E.set i (some (.d x))) else none := rfl
theorem as_tup (ts : List Tg) (xs : List D) : asgT (.seq ts) (.tup xs) E = asgTs ts xs E := rfl
theorem as_0 : asgTs [] [] E = some E := rfl
theorem as_s (t : Tg) (ts : List Tg) (x : D) (xs : List D) : asgTs (t :: ts) (x :: xs) E = (asgT t x E).bind fun E' => asgTs ts xs E' := rfl
theorem f_rt (n : Nat) (x : D) : fin n (.ok (.rt (.d x), E) S) = .ok (.d x) (S.take n) := rfl
theorem f_own (n : Nat) (c : Cell) : fin n (.ok (.rt (.own c), E) S) = .ok (.own c) (S.take n) := rfl
theorem f_nx (n : Nat) : fin n (.ok (.nx, E) S) = .ok (.d .non) (S.take n) := rfl
theorem r_run (f : Fd) (vs : List Val) (h : vs.length = f.np) : runF Fs Gs W f vs S = fin S.length (semB Fs Gs W f.body (vs.map some ++ List.replicate (f.ns - vs.length) none) S) := if_pos h
end
end Mi

set_option maxHeartbeats 2000000
namespace K03
open Mi
open PySem (Str)
abbrev fds : List Fd := rows.map (·.fd)
abbrev C (n : Nat) : Fns := callF fds gs 100000 n
theorem call_at {n f : Nat} {fd : Fd} (h : fds[f]? = some fd) (vs : List Val) (S : Store) : C (n + 1) f vs S = runF (C n) gs 100000 fd vs S := by
  show (match fds[f]? with
    | some fd => runF (C n) gs 100000 fd vs S
    | none => .no) = _
  rw [h]
abbrev I (i : Int) : Val := .d (.int i)
theorem int_run (n : Nat) (i : Int) (S : Store) : C (n + 1) 0 [I i] S = .ok (.d (.bl true)) S := by
  rw [call_at (fd := ⟨1, 1, b0⟩) rfl, r_run _ _ _ _ _ _ rfl]
  simp [b0, e_kN, e_kB, e_kI, e_kS, e_var, e_glb, e_fnv, e_typ, e_neg, e_bin, e_cmp, e_chn, e_and, e_or, e_not, e_ife, e_tup, e_lst, e_ix, e_slc, e_call, e_bi, e_mt, e_lc, e_dc, t_and, t_or, t_not, t_var, t_cmp, t_chn, t_call, t_bi, t_ix, i_var, i_call, i_bi, i_rng, i_zip, ss_nil, ss_cons, so_none, so_some, ea_nil, ea_cons, an_1, an_2, or_1, or_2, tan_1, tan_2, tor_1, tor_2, tal_0, tal_1, ep_0, ep_1, st_, st2_, tu_nil, tu_c, w_0, w_s, ca_ok, at1, at2_0, at2_1, at4_0, at4_1, at4_2, at4_3, bo_nil, bo_c, io_nil, io_c, is_int, is_intb, is_tup, g_0, g_s, p_d, p_own, p_ref, d_d, d_own, a_d, a_own, a_ref, c_lst, c_dct, pk_nil, pk_cons, sa_nil, sa_cons, ao_nil, ao_cons, b_add, b_sub, b_mul, b_div, b_mod, b_pow, b_cat, n_int, n_bl, cv, c_eq, c_ne, c_lt, c_le, c_gt, c_ge, c_in, c_notIn, eq_int, x_lst, x_tup, x_dct, tr_bl, tr_int, bi_len, bi_lent, bi_abs, bi_int, bi_all, bi_list, bi_listk, bi_listt, bi_tuple, bi_tuplet, io_lst, io_klst, io_tup, k_nil, k_cons, k_asg, k_asgS, k_asgN, k_setix, k_ex, k_ret, k_retN, k_iff, k_whl, k_for, k_brk, k_cont, lo_nil, lo_cons, li_some, as_nm, as_tup, as_0, as_s, f_rt, f_own, f_nx, R.bind_ok, R.of_some, Option.bind_some, Option.map_some, List.length_cons, List.length_nil, List.set_cons_zero, List.set_cons_succ, List.map_cons, List.map_nil, List.replicate, List.cons_append, List.nil_append, if_true, if_false, Bool.false_eq_true, biD, isiD, tyOf, asked]
/-! ### the greatest common divisor -/
theorem half {k x y : Nat} (hy : y < 2 ^ (k + 1)) (h0 : 0 < x % y) : y % (x % y) < 2 ^ k := by
  rcases Nat.eq_zero_or_pos y with e | e
  · subst e; rw [Nat.zero_mod]; exact Nat.two_pow_pos k
  have h1 : x % y < y := Nat.mod_lt _ e
  have h2 : y % (x % y) < x % y := Nat.mod_lt _ h0
  have h3 : y % (x % y) + x % y ≤ y := by
    have e := Nat.div_add_mod y (x % y)
    have q : 1 ≤ y / (x % y) := (Nat.one_le_div_iff h0).mpr (Nat.le_of_lt h1)
    have m : x % y ≤ x % y * (y / (x % y)) := Nat.le_mul_of_pos_right _ q
    omega
  have e : 2 ^ (k + 1) = 2 * 2 ^ k := by rw [Nat.pow_succ]; omega
  omega
abbrev dB : List Sx := [.asgS [(.nm 0), (.nm 1)] (.tup [(.var 1), (.bin .Mod (.var 0) (.var 1))])]
theorem div_t (Fs : Fns) (x : Int) (y : Nat) (S : Store) : (sem Fs gs (.var 1)).ts [some (I x), some (I y)] S = .ok (decide (y ≠ 0)) S := by
  simp only [e_kN, e_kB, e_kI, e_kS, e_var, e_glb, e_fnv, e_typ, e_neg, e_bin, e_cmp, e_chn, e_and, e_or, e_not, e_ife, e_tup, e_lst, e_ix, e_slc, e_call, e_bi, e_mt, e_lc, e_dc, t_and, t_or, t_not, t_var, t_cmp, t_chn, t_call, t_bi, t_ix, i_var, i_call, i_bi, i_rng, i_zip, ss_nil, ss_cons, so_none, so_some, ea_nil, ea_cons, an_1, an_2, or_1, or_2, tan_1, tan_2, tor_1, tor_2, tal_0, tal_1, ep_0, ep_1, st_, st2_, tu_nil, tu_c, w_0, w_s, ca_ok, at1, at2_0, at2_1, at4_0, at4_1, at4_2, at4_3, bo_nil, bo_c, io_nil, io_c, is_int, is_intb, is_tup, g_0, g_s, p_d, p_own, p_ref, d_d, d_own, a_d, a_own, a_ref, c_lst, c_dct, pk_nil, pk_cons, sa_nil, sa_cons, ao_nil, ao_cons, b_add, b_sub, b_mul, b_div, b_mod, b_pow, b_cat, n_int, n_bl, cv, c_eq, c_ne, c_lt, c_le, c_gt, c_ge, c_in, c_notIn, eq_int, x_lst, x_tup, x_dct, tr_bl, tr_int, bi_len, bi_lent, bi_abs, bi_int, bi_all, bi_list, bi_listk, bi_listt, bi_tuple, bi_tuplet, io_lst, io_klst, io_tup, k_nil, k_cons, k_asg, k_asgS, k_asgN, k_setix, k_ex, k_ret, k_retN, k_iff, k_whl, k_for, k_brk, k_cont, lo_nil, lo_cons, li_some, as_nm, as_tup, as_0, as_s, f_rt, f_own, f_nx, R.bind_ok, R.of_some, Option.bind_some, Option.map_some, List.length_cons, List.length_nil, List.set_cons_zero, List.set_cons_succ, List.map_cons, List.map_nil, List.replicate, List.cons_append, List.nil_append, if_true, if_false, Bool.false_eq_true]
  cases y <;> simp
  omega
theorem div_b (Fs : Fns) (x y : Nat) (S : Store) (h : 0 < y) : semB Fs gs 100000 dB [some (I x), some (I y)] S = .ok (.nx, [some (I y), some (I ((x % y : Nat) : Int))]) S := by
  have h' : (0 : Int) < (y : Int) := by omega
  simp [e_kN, e_kB, e_kI, e_kS, e_var, e_glb, e_fnv, e_typ, e_neg, e_bin, e_cmp, e_chn, e_and, e_or, e_not, e_ife, e_tup, e_lst, e_ix, e_slc, e_call, e_bi, e_mt, e_lc, e_dc, t_and, t_or, t_not, t_var, t_cmp, t_chn, t_call, t_bi, t_ix, i_var, i_call, i_bi, i_rng, i_zip, ss_nil, ss_cons, so_none, so_some, ea_nil, ea_cons, an_1, an_2, or_1, or_2, tan_1, tan_2, tor_1, tor_2, tal_0, tal_1, ep_0, ep_1, st_, st2_, tu_nil, tu_c, w_0, w_s, ca_ok, at1, at2_0, at2_1, at4_0, at4_1, at4_2, at4_3, bo_nil, bo_c, io_nil, io_c, is_int, is_intb, is_tup, g_0, g_s, p_d, p_own, p_ref, d_d, d_own, a_d, a_own, a_ref, c_lst, c_dct, pk_nil, pk_cons, sa_nil, sa_cons, ao_nil, ao_cons, b_add, b_sub, b_mul, b_div, b_mod, b_pow, b_cat, n_int, n_bl, cv, c_eq, c_ne, c_lt, c_le, c_gt, c_ge, c_in, c_notIn, eq_int, x_lst, x_tup, x_dct, tr_bl, tr_int, bi_len, bi_lent, bi_abs, bi_int, bi_all, bi_list, bi_listk, bi_listt, bi_tuple, bi_tuplet, io_lst, io_klst, io_tup, k_nil, k_cons, k_asg, k_asgS, k_asgN, k_setix, k_ex, k_ret, k_retN, k_iff, k_whl, k_for, k_brk, k_cont, lo_nil, lo_cons, li_some, as_nm, as_tup, as_0, as_s, f_rt, f_own, f_nx, R.bind_ok, R.of_some, Option.bind_some, Option.map_some, List.length_cons, List.length_nil, List.set_cons_zero, List.set_cons_succ, List.map_cons, List.map_nil, List.replicate, List.cons_append, List.nil_append, if_true, if_false, Bool.false_eq_true, h, PySem.sizeLine]
theorem div_loop (Fs : Fns) (S : Store) : ∀ (k n x y : Nat), y < 2 ^ k → 2 * k + 1 ≤ n → whileN (sem Fs gs (.var 1)).ts (semB Fs gs 100000 dB) n [some (I x), some (I y)] S = .ok (.nx, [some (I (Nat.gcd x y : Nat)), some (I 0)]) S := by
  intro k
  have zero : ∀ (n x : Nat), 1 ≤ n → whileN (sem Fs gs (.var 1)).ts (semB Fs gs 100000 dB) n [some (I x), some (I (0 : Nat))] S = .ok (.nx, [some (I (Nat.gcd x 0 : Nat)), some (I 0)]) S := fun n x hn => by
    obtain ⟨m, rfl⟩ : ∃ m, n = m + 1 := ⟨n - 1, by omega⟩
    unfold whileN
    rw [div_t]
    simp [R.bind]
  have step : ∀ (n x y : Nat), 0 < y → whileN (sem Fs gs (.var 1)).ts (semB Fs gs 100000 dB) (n + 1) [some (I x), some (I y)] S = whileN (sem Fs gs (.var 1)).ts (semB Fs gs 100000 dB) n [some (I y), some (I (x % y : Nat))] S := fun n x y hy => by
    have e : decide (y ≠ 0) = true := decide_eq_true (by omega)
    show ((sem Fs gs (.var 1)).ts [some (I x), some (I y)] S).bind _ = _
    rw [div_t, e, R.bind_ok, if_pos rfl, div_b Fs x y S hy]
    rfl
  induction k with
  | zero => intro n x y hy hn; obtain rfl : y = 0 := by simpa using hy
            exact zero n x (by omega)
  | succ k ih =>
    intro n x y hy hn
    rcases Nat.eq_zero_or_pos y with e | e
    · subst e; exact zero n x (by omega)
    · obtain ⟨m, rfl⟩ : ∃ m, n = m + 2 := ⟨n - 2, by omega⟩
      rw [step (m + 1) x y e]
      have g1 : Nat.gcd x y = Nat.gcd y (x % y) := by rw [Nat.gcd_comm x y, Nat.gcd_rec y x, Nat.gcd_comm]
      rw [g1]
      rcases Nat.eq_zero_or_pos (x % y) with e2 | e2
      · rw [e2]; exact zero (m + 1) y (by omega)
      · rw [step m y (x % y) e2]
        have g2 : Nat.gcd y (x % y) = Nat.gcd (x % y) (y % (x % y)) := by rw [Nat.gcd_comm y, Nat.gcd_rec (x % y) y, Nat.gcd_comm]
        rw [g2]
        exact ih m (x % y) (y % (x % y)) (half hy e2) (by omega)
theorem divisor_run (n : Nat) (a b : Int) (S : Store) (h : b.natAbs < 2 ^ 49000) : C (n + 1) 1 [I a, I b] S = .ok (I (Int.gcd a b : Nat)) S := by
  rw [call_at (fd := ⟨2, 2, b1⟩) rfl]
  have q := div_loop (C n) S 49000 100000 a.natAbs b.natAbs h (by omega)
  rw [r_run _ _ _ _ _ _ rfl]
  simp [b1, e_kN, e_kB, e_kI, e_kS, e_var, e_glb, e_fnv, e_typ, e_neg, e_bin, e_cmp, e_chn, e_and, e_or, e_not, e_ife, e_tup, e_lst, e_ix, e_slc, e_call, e_bi, e_mt, e_lc, e_dc, t_and, t_or, t_not, t_var, t_cmp, t_chn, t_call, t_bi, t_ix, i_var, i_call, i_bi, i_rng, i_zip, ss_nil, ss_cons, so_none, so_some, ea_nil, ea_cons, an_1, an_2, or_1, or_2, tan_1, tan_2, tor_1, tor_2, tal_0, tal_1, ep_0, ep_1, st_, st2_, tu_nil, tu_c, w_0, w_s, ca_ok, at1, at2_0, at2_1, at4_0, at4_1, at4_2, at4_3, bo_nil, bo_c, io_nil, io_c, is_int, is_intb, is_tup, g_0, g_s, p_d, p_own, p_ref, d_d, d_own, a_d, a_own, a_ref, c_lst, c_dct, pk_nil, pk_cons, sa_nil, sa_cons, ao_nil, ao_cons, b_add, b_sub, b_mul, b_div, b_mod, b_pow, b_cat, n_int, n_bl, cv, c_eq, c_ne, c_lt, c_le, c_gt, c_ge, c_in, c_notIn, eq_int, x_lst, x_tup, x_dct, tr_bl, tr_int, bi_len, bi_lent, bi_abs, bi_int, bi_all, bi_list, bi_listk, bi_listt, bi_tuple, bi_tuplet, io_lst, io_klst, io_tup, k_nil, k_cons, k_asg, k_asgS, k_asgN, k_setix, k_ex, k_ret, k_retN, k_iff, k_whl, k_for, k_brk, k_cont, lo_nil, lo_cons, li_some, as_nm, as_tup, as_0, as_s, f_rt, f_own, f_nx, R.bind_ok, R.of_some, Option.bind_some, Option.map_some, List.length_cons, List.length_nil, List.set_cons_zero, List.set_cons_succ, List.map_cons, List.map_nil, List.replicate, List.cons_append, List.nil_append, if_true, if_false, Bool.false_eq_true, PySem.sizeLine, q, Int.gcd]

/-! ### sizes -/
def B (k : Nat) (i : Int) : Prop := i.natAbs < 2 ^ k
theorem B.mono {k l : Nat} {i : Int} (h : B k i) (e : k ≤ l) : B l i := Nat.lt_of_lt_of_le h (Nat.pow_le_pow_right (by omega) e)
theorem B.mul {k l : Nat} {i j : Int} (h : B k i) (g : B l j) : B (k + l) (i * j) := by
  unfold B at *
  rw [Int.natAbs_mul, Nat.pow_add]
  exact Nat.mul_lt_mul_of_lt_of_lt h g
theorem B.add {k : Nat} {i j : Int} (h : B k i) (g : B k j) : B (k + 1) (i + j) := by
  unfold B at *
  have e := Int.natAbs_add_le i j
  rw [Nat.pow_succ]
  omega
theorem B.neg {k : Nat} {i : Int} (h : B k i) : B k (-i) := by unfold B at *; rw [Int.natAbs_neg]; exact h
theorem B.sub {k : Nat} {i j : Int} (h : B k i) (g : B k j) : B (k + 1) (i - j) := by rw [Int.sub_eq_add_neg]; exact h.add g.neg
theorem B.le {k : Nat} {i j : Int} (h : B k i) (e : j.natAbs ≤ i.natAbs) : B k j := Nat.lt_of_le_of_lt e h
theorem natAbs_div_le (i : Int) (g : Nat) (h : (g : Int) ∣ i) : (i / (g : Int)).natAbs ≤ i.natAbs := by
  rw [Int.natAbs_ediv_of_dvd h]
  exact Nat.div_le_self _ _
theorem log_le {k n : Nat} (h : n < 2 ^ k) : Nat.log2 n ≤ k := by
  rcases Nat.eq_zero_or_pos n with e | e
  · subst e; simp
  · exact Nat.le_of_lt ((Nat.log2_lt (by omega)).mpr h)
theorem cmul_ok {k l : Nat} {i j : Int} (h : B k i) (g : B l j) (e : k + l < 1000000) : cmulB i j = true := by
  have h1 := log_le h
  have h2 := log_le g
  unfold cmulB
  exact decide_eq_true (by omega)
theorem cdiv_ok {k : Nat} {j : Int} (h : B k j) (h0 : 0 < j) (e : k < 9000) : cdivB j = true := by
  have h1 := log_le h
  unfold cdivB
  rw [decide_eq_true h0, decide_eq_true (by omega)]
  rfl
/-! ### lowest terms -/
/-- u / v in lowest terms -/
def lo (u v : Int) : Int × Int := if v < 0 then (-u / (Int.gcd u v : Nat), -v / (Int.gcd u v : Nat)) else (u / (Int.gcd u v : Nat), v / (Int.gcd u v : Nat))
abbrev fr (p : Int × Int) : D := .tup [.int p.1, .int p.2]
theorem gcd_pos {u v : Int} (h : v ≠ 0) : 0 < (Int.gcd u v : Int) := by
  have := Int.gcd_pos_of_ne_zero_right u h
  omega
theorem lo_B {k : Nat} {u v : Int} (h : B k u) (g : B k v) : B k (lo u v).1 ∧ B k (lo u v).2 := by
  unfold lo
  split
  · exact ⟨h.neg.le (natAbs_div_le _ _ (Int.dvd_neg.mpr (Int.gcd_dvd_left u v))), g.neg.le (natAbs_div_le _ _ (Int.dvd_neg.mpr (Int.gcd_dvd_right u v)))⟩
  · exact ⟨h.le (natAbs_div_le _ _ (Int.gcd_dvd_left u v)), g.le (natAbs_div_le _ _ (Int.gcd_dvd_right u v))⟩
theorem low_run (n : Nat) (u v : Int) (S : Store) (h : v ≠ 0) (hB : B 8000 v) : C (n + 2) 3 [I u, I v] S = .ok (.d (fr (lo u v))) S := by
  have hB' : v.natAbs < 2 ^ 49000 := hB.mono (l := 49000) (by omega)
  have gB : B 8000 (Int.gcd u v : Int) := by
    show ((Int.gcd u v : Int)).natAbs < _
    rw [Int.natAbs_natCast]
    exact Nat.lt_of_le_of_lt (Nat.le_of_dvd (by omega) (Int.gcd_dvd_natAbs_right u v)) hB
  have gd := cdiv_ok gB (gcd_pos h) (by omega)
  rw [call_at (fd := ⟨2, 3, b3⟩) rfl, r_run _ _ _ _ _ _ rfl]
  by_cases h1 : v = 1
  · subst h1
    simp [b3, e_kN, e_kB, e_kI, e_kS, e_var, e_glb, e_fnv, e_typ, e_neg, e_bin, e_cmp, e_chn, e_and, e_or, e_not, e_ife, e_tup, e_lst, e_ix, e_slc, e_call, e_bi, e_mt, e_lc, e_dc, t_and, t_or, t_not, t_var, t_cmp, t_chn, t_call, t_bi, t_ix, i_var, i_call, i_bi, i_rng, i_zip, ss_nil, ss_cons, so_none, so_some, ea_nil, ea_cons, an_1, an_2, or_1, or_2, tan_1, tan_2, tor_1, tor_2, tal_0, tal_1, ep_0, ep_1, st_, st2_, tu_nil, tu_c, w_0, w_s, ca_ok, at1, at2_0, at2_1, at4_0, at4_1, at4_2, at4_3, bo_nil, bo_c, io_nil, io_c, is_int, is_intb, is_tup, g_0, g_s, p_d, p_own, p_ref, d_d, d_own, a_d, a_own, a_ref, c_lst, c_dct, pk_nil, pk_cons, sa_nil, sa_cons, ao_nil, ao_cons, b_add, b_sub, b_mul, b_div, b_mod, b_pow, b_cat, n_int, n_bl, cv, c_eq, c_ne, c_lt, c_le, c_gt, c_ge, c_in, c_notIn, eq_int, x_lst, x_tup, x_dct, tr_bl, tr_int, bi_len, bi_lent, bi_abs, bi_int, bi_all, bi_list, bi_listk, bi_listt, bi_tuple, bi_tuplet, io_lst, io_klst, io_tup, k_nil, k_cons, k_asg, k_asgS, k_asgN, k_setix, k_ex, k_ret, k_retN, k_iff, k_whl, k_for, k_brk, k_cont, lo_nil, lo_cons, li_some, as_nm, as_tup, as_0, as_s, f_rt, f_own, f_nx, R.bind_ok, R.of_some, Option.bind_some, Option.map_some, List.length_cons, List.length_nil, List.set_cons_zero, List.set_cons_succ, List.map_cons, List.map_nil, List.replicate, List.cons_append, List.nil_append, if_true, if_false, Bool.false_eq_true, eq_int, PySem.sizeLine, lo]
  · have e1 : (v == 1) = false := by simpa using h1
    have d := fun (a b : Int) (hb : b.natAbs < 2 ^ 49000) => divisor_run n a b S hb
    by_cases h2 : v < 0
    · have d2 := d (-u) (-v) (by rw [Int.natAbs_neg]; exact hB')
      rw [Int.gcd_neg, Int.neg_gcd] at d2
      simp [b3, e_kN, e_kB, e_kI, e_kS, e_var, e_glb, e_fnv, e_typ, e_neg, e_bin, e_cmp, e_chn, e_and, e_or, e_not, e_ife, e_tup, e_lst, e_ix, e_slc, e_call, e_bi, e_mt, e_lc, e_dc, t_and, t_or, t_not, t_var, t_cmp, t_chn, t_call, t_bi, t_ix, i_var, i_call, i_bi, i_rng, i_zip, ss_nil, ss_cons, so_none, so_some, ea_nil, ea_cons, an_1, an_2, or_1, or_2, tan_1, tan_2, tor_1, tor_2, tal_0, tal_1, ep_0, ep_1, st_, st2_, tu_nil, tu_c, w_0, w_s, ca_ok, at1, at2_0, at2_1, at4_0, at4_1, at4_2, at4_3, bo_nil, bo_c, io_nil, io_c, is_int, is_intb, is_tup, g_0, g_s, p_d, p_own, p_ref, d_d, d_own, a_d, a_own, a_ref, c_lst, c_dct, pk_nil, pk_cons, sa_nil, sa_cons, ao_nil, ao_cons, b_add, b_sub, b_mul, b_div, b_mod, b_pow, b_cat, n_int, n_bl, cv, c_eq, c_ne, c_lt, c_le, c_gt, c_ge, c_in, c_notIn, eq_int, x_lst, x_tup, x_dct, tr_bl, tr_int, bi_len, bi_lent, bi_abs, bi_int, bi_all, bi_list, bi_listk, bi_listt, bi_tuple, bi_tuplet, io_lst, io_klst, io_tup, k_nil, k_cons, k_asg, k_asgS, k_asgN, k_setix, k_ex, k_ret, k_retN, k_iff, k_whl, k_for, k_brk, k_cont, lo_nil, lo_cons, li_some, as_nm, as_tup, as_0, as_s, f_rt, f_own, f_nx, R.bind_ok, R.of_some, Option.bind_some, Option.map_some, List.length_cons, List.length_nil, List.set_cons_zero, List.set_cons_succ, List.map_cons, List.map_nil, List.replicate, List.cons_append, List.nil_append, if_true, if_false, Bool.false_eq_true, e1, h2, PySem.sizeLine, d2, gd, lo]
    · have d2 := d u v hB'
      simp [b3, e_kN, e_kB, e_kI, e_kS, e_var, e_glb, e_fnv, e_typ, e_neg, e_bin, e_cmp, e_chn, e_and, e_or, e_not, e_ife, e_tup, e_lst, e_ix, e_slc, e_call, e_bi, e_mt, e_lc, e_dc, t_and, t_or, t_not, t_var, t_cmp, t_chn, t_call, t_bi, t_ix, i_var, i_call, i_bi, i_rng, i_zip, ss_nil, ss_cons, so_none, so_some, ea_nil, ea_cons, an_1, an_2, or_1, or_2, tan_1, tan_2, tor_1, tor_2, tal_0, tal_1, ep_0, ep_1, st_, st2_, tu_nil, tu_c, w_0, w_s, ca_ok, at1, at2_0, at2_1, at4_0, at4_1, at4_2, at4_3, bo_nil, bo_c, io_nil, io_c, is_int, is_intb, is_tup, g_0, g_s, p_d, p_own, p_ref, d_d, d_own, a_d, a_own, a_ref, c_lst, c_dct, pk_nil, pk_cons, sa_nil, sa_cons, ao_nil, ao_cons, b_add, b_sub, b_mul, b_div, b_mod, b_pow, b_cat, n_int, n_bl, cv, c_eq, c_ne, c_lt, c_le, c_gt, c_ge, c_in, c_notIn, eq_int, x_lst, x_tup, x_dct, tr_bl, tr_int, bi_len, bi_lent, bi_abs, bi_int, bi_all, bi_list, bi_listk, bi_listt, bi_tuple, bi_tuplet, io_lst, io_klst, io_tup, k_nil, k_cons, k_asg, k_asgS, k_asgN, k_setix, k_ex, k_ret, k_retN, k_iff, k_whl, k_for, k_brk, k_cont, lo_nil, lo_cons, li_some, as_nm, as_tup, as_0, as_s, f_rt, f_own, f_nx, R.bind_ok, R.of_some, Option.bind_some, Option.map_some, List.length_cons, List.length_nil, List.set_cons_zero, List.set_cons_succ, List.map_cons, List.map_nil, List.replicate, List.cons_append, List.nil_append, if_true, if_false, Bool.false_eq_true, e1, h2, PySem.sizeLine, d2, gd, lo]
end K03

set_option maxHeartbeats 2000000
namespace K03
open Mi
open PySem (Str)
/-- in lowest terms -/
structure Nm (p : Int × Int) : Prop where
  pos : 0 < p.2
  one : Int.gcd p.1 p.2 = 1
theorem Nm.ne {p : Int × Int} (h : Nm p) : p.2 ≠ 0 := by have := h.pos; omega
theorem isf_run (n : Nat) (p : Int × Int) (S : Store) (h : Nm p) (hB : B 8000 p.2) : C (n + 2) 2 [.d (fr p)] S = .ok (.d (.bl true)) S := by
  have hB' : p.2.natAbs < 2 ^ 49000 := hB.mono (l := 49000) (by omega)
  have d := divisor_run n p.1 p.2 S hB'
  rw [h.one] at d
  have i1 := int_run n p.1 S
  have i2 := int_run n p.2 S
  have hp := h.pos
  rw [call_at (fd := ⟨1, 2, b2⟩) rfl, r_run _ _ _ _ _ _ rfl]
  by_cases e : p.2 = 1
  · have e1 : (p.2 == 1) = true := by simpa using e
    simp [b2, e_kN, e_kB, e_kI, e_kS, e_var, e_glb, e_fnv, e_typ, e_neg, e_bin, e_cmp, e_chn, e_and, e_or, e_not, e_ife, e_tup, e_lst, e_ix, e_slc, e_call, e_bi, e_mt, e_lc, e_dc, t_and, t_or, t_not, t_var, t_cmp, t_chn, t_call, t_bi, t_ix, i_var, i_call, i_bi, i_rng, i_zip, ss_nil, ss_cons, so_none, so_some, ea_nil, ea_cons, an_1, an_2, or_1, or_2, tan_1, tan_2, tor_1, tor_2, tal_0, tal_1, ep_0, ep_1, st_, st2_, tu_nil, tu_c, w_0, w_s, ca_ok, at1, at2_0, at2_1, at4_0, at4_1, at4_2, at4_3, bo_nil, bo_c, io_nil, io_c, is_int, is_intb, is_tup, g_0, g_s, p_d, p_own, p_ref, d_d, d_own, a_d, a_own, a_ref, c_lst, c_dct, pk_nil, pk_cons, sa_nil, sa_cons, ao_nil, ao_cons, b_add, b_sub, b_mul, b_div, b_mod, b_pow, b_cat, n_int, n_bl, cv, c_eq, c_ne, c_lt, c_le, c_gt, c_ge, c_in, c_notIn, eq_int, x_lst, x_tup, x_dct, tr_bl, tr_int, bi_len, bi_lent, bi_abs, bi_int, bi_all, bi_list, bi_listk, bi_listt, bi_tuple, bi_tuplet, io_lst, io_klst, io_tup, k_nil, k_cons, k_asg, k_asgS, k_asgN, k_setix, k_ex, k_ret, k_retN, k_iff, k_whl, k_for, k_brk, k_cont, lo_nil, lo_cons, li_some, as_nm, as_tup, as_0, as_s, f_rt, f_own, f_nx, R.bind_ok, R.of_some, Option.bind_some, Option.map_some, List.length_cons, List.length_nil, List.set_cons_zero, List.set_cons_succ, List.map_cons, List.map_nil, List.replicate, List.cons_append, List.nil_append, if_true, if_false, Bool.false_eq_true, eq_int, i1, i2, e1]
  · have e1 : (p.2 == 1) = false := by simpa using e
    have e2 : (1 : Int) < p.2 := by omega
    simp [b2, e_kN, e_kB, e_kI, e_kS, e_var, e_glb, e_fnv, e_typ, e_neg, e_bin, e_cmp, e_chn, e_and, e_or, e_not, e_ife, e_tup, e_lst, e_ix, e_slc, e_call, e_bi, e_mt, e_lc, e_dc, t_and, t_or, t_not, t_var, t_cmp, t_chn, t_call, t_bi, t_ix, i_var, i_call, i_bi, i_rng, i_zip, ss_nil, ss_cons, so_none, so_some, ea_nil, ea_cons, an_1, an_2, or_1, or_2, tan_1, tan_2, tor_1, tor_2, tal_0, tal_1, ep_0, ep_1, st_, st2_, tu_nil, tu_c, w_0, w_s, ca_ok, at1, at2_0, at2_1, at4_0, at4_1, at4_2, at4_3, bo_nil, bo_c, io_nil, io_c, is_int, is_intb, is_tup, g_0, g_s, p_d, p_own, p_ref, d_d, d_own, a_d, a_own, a_ref, c_lst, c_dct, pk_nil, pk_cons, sa_nil, sa_cons, ao_nil, ao_cons, b_add, b_sub, b_mul, b_div, b_mod, b_pow, b_cat, n_int, n_bl, cv, c_eq, c_ne, c_lt, c_le, c_gt, c_ge, c_in, c_notIn, eq_int, x_lst, x_tup, x_dct, tr_bl, tr_int, bi_len, bi_lent, bi_abs, bi_int, bi_all, bi_list, bi_listk, bi_listt, bi_tuple, bi_tuplet, io_lst, io_klst, io_tup, k_nil, k_cons, k_asg, k_asgS, k_asgN, k_setix, k_ex, k_ret, k_retN, k_iff, k_whl, k_for, k_brk, k_cont, lo_nil, lo_cons, li_some, as_nm, as_tup, as_0, as_s, f_rt, f_own, f_nx, R.bind_ok, R.of_some, Option.bind_some, Option.map_some, List.length_cons, List.length_nil, List.set_cons_zero, List.set_cons_succ, List.map_cons, List.map_nil, List.replicate, List.cons_append, List.nil_append, if_true, if_false, Bool.false_eq_true, eq_int, i1, i2, e1, e2, d]
/-! the four kinds of sums, on pairs -/
def ad (p q : Int × Int) : Int × Int := lo (p.1 * q.2 + q.1 * p.2) (p.2 * q.2)
def su (p q : Int × Int) : Int × Int := lo (p.1 * q.2 - q.1 * p.2) (p.2 * q.2)
def ti (p q : Int × Int) : Int × Int := lo (p.1 * q.1) (p.2 * q.2)
def ov (p q : Int × Int) : Int × Int := lo (p.1 * q.2) (p.2 * q.1)
structure Bp (k : Nat) (p : Int × Int) : Prop where
  a : B k p.1
  b : B k p.2
theorem Bp.mono {k l : Nat} {p : Int × Int} (h : Bp k p) (e : k ≤ l) : Bp l p := ⟨h.a.mono e, h.b.mono e⟩
section
variable (n : Nat) (p q : Int × Int) (S : Store) {k : Nat} (hk : k ≤ 3000) (h : Bp k p) (h' : Bp k q)
include hk h h'
theorem mul_ok : cmulB p.1 q.2 = true ∧ cmulB q.1 p.2 = true ∧ cmulB p.2 q.2 = true ∧ cmulB p.1 q.1 = true ∧ cmulB p.2 q.1 = true :=
  ⟨cmul_ok h.a h'.b (by omega), cmul_ok h'.a h.b (by omega), cmul_ok h.b h'.b (by omega), cmul_ok h.a h'.a (by omega), cmul_ok h.b h'.a (by omega)⟩
theorem plus_in (hp : Nm p) (hq : Nm q) : C (n + 3) 4 [.d (fr p), .d (fr q)] S = .ok (.d (fr (ad p q))) S := by
  obtain ⟨m1, m2, m3, m4, m5⟩ := mul_ok p q hk h h'
  have d := low_run n (p.1 * q.2 + q.1 * p.2) (p.2 * q.2) S (Int.mul_ne_zero hp.ne hq.ne) ((h.b.mul h'.b).mono (by omega))
  rw [call_at (fd := ⟨2, 2, b4⟩) rfl, r_run _ _ _ _ _ _ rfl]
  simp [b4, e_kN, e_kB, e_kI, e_kS, e_var, e_glb, e_fnv, e_typ, e_neg, e_bin, e_cmp, e_chn, e_and, e_or, e_not, e_ife, e_tup, e_lst, e_ix, e_slc, e_call, e_bi, e_mt, e_lc, e_dc, t_and, t_or, t_not, t_var, t_cmp, t_chn, t_call, t_bi, t_ix, i_var, i_call, i_bi, i_rng, i_zip, ss_nil, ss_cons, so_none, so_some, ea_nil, ea_cons, an_1, an_2, or_1, or_2, tan_1, tan_2, tor_1, tor_2, tal_0, tal_1, ep_0, ep_1, st_, st2_, tu_nil, tu_c, w_0, w_s, ca_ok, at1, at2_0, at2_1, at4_0, at4_1, at4_2, at4_3, bo_nil, bo_c, io_nil, io_c, is_int, is_intb, is_tup, g_0, g_s, p_d, p_own, p_ref, d_d, d_own, a_d, a_own, a_ref, c_lst, c_dct, pk_nil, pk_cons, sa_nil, sa_cons, ao_nil, ao_cons, b_add, b_sub, b_mul, b_div, b_mod, b_pow, b_cat, n_int, n_bl, cv, c_eq, c_ne, c_lt, c_le, c_gt, c_ge, c_in, c_notIn, eq_int, x_lst, x_tup, x_dct, tr_bl, tr_int, bi_len, bi_lent, bi_abs, bi_int, bi_all, bi_list, bi_listk, bi_listt, bi_tuple, bi_tuplet, io_lst, io_klst, io_tup, k_nil, k_cons, k_asg, k_asgS, k_asgN, k_setix, k_ex, k_ret, k_retN, k_iff, k_whl, k_for, k_brk, k_cont, lo_nil, lo_cons, li_some, as_nm, as_tup, as_0, as_s, f_rt, f_own, f_nx, R.bind_ok, R.of_some, Option.bind_some, Option.map_some, List.length_cons, List.length_nil, List.set_cons_zero, List.set_cons_succ, List.map_cons, List.map_nil, List.replicate, List.cons_append, List.nil_append, if_true, if_false, Bool.false_eq_true, m1, m2, m3, d, ad]
theorem minus_in (hp : Nm p) (hq : Nm q) : C (n + 3) 5 [.d (fr p), .d (fr q)] S = .ok (.d (fr (su p q))) S := by
  obtain ⟨m1, m2, m3, m4, m5⟩ := mul_ok p q hk h h'
  have d := low_run n (p.1 * q.2 - q.1 * p.2) (p.2 * q.2) S (Int.mul_ne_zero hp.ne hq.ne) ((h.b.mul h'.b).mono (by omega))
  rw [call_at (fd := ⟨2, 2, b5⟩) rfl, r_run _ _ _ _ _ _ rfl]
  simp [b5, e_kN, e_kB, e_kI, e_kS, e_var, e_glb, e_fnv, e_typ, e_neg, e_bin, e_cmp, e_chn, e_and, e_or, e_not, e_ife, e_tup, e_lst, e_ix, e_slc, e_call, e_bi, e_mt, e_lc, e_dc, t_and, t_or, t_not, t_var, t_cmp, t_chn, t_call, t_bi, t_ix, i_var, i_call, i_bi, i_rng, i_zip, ss_nil, ss_cons, so_none, so_some, ea_nil, ea_cons, an_1, an_2, or_1, or_2, tan_1, tan_2, tor_1, tor_2, tal_0, tal_1, ep_0, ep_1, st_, st2_, tu_nil, tu_c, w_0, w_s, ca_ok, at1, at2_0, at2_1, at4_0, at4_1, at4_2, at4_3, bo_nil, bo_c, io_nil, io_c, is_int, is_intb, is_tup, g_0, g_s, p_d, p_own, p_ref, d_d, d_own, a_d, a_own, a_ref, c_lst, c_dct, pk_nil, pk_cons, sa_nil, sa_cons, ao_nil, ao_cons, b_add, b_sub, b_mul, b_div, b_mod, b_pow, b_cat, n_int, n_bl, cv, c_eq, c_ne, c_lt, c_le, c_gt, c_ge, c_in, c_notIn, eq_int, x_lst, x_tup, x_dct, tr_bl, tr_int, bi_len, bi_lent, bi_abs, bi_int, bi_all, bi_list, bi_listk, bi_listt, bi_tuple, bi_tuplet, io_lst, io_klst, io_tup, k_nil, k_cons, k_asg, k_asgS, k_asgN, k_setix, k_ex, k_ret, k_retN, k_iff, k_whl, k_for, k_brk, k_cont, lo_nil, lo_cons, li_some, as_nm, as_tup, as_0, as_s, f_rt, f_own, f_nx, R.bind_ok, R.of_some, Option.bind_some, Option.map_some, List.length_cons, List.length_nil, List.set_cons_zero, List.set_cons_succ, List.map_cons, List.map_nil, List.replicate, List.cons_append, List.nil_append, if_true, if_false, Bool.false_eq_true, m1, m2, m3, d, su]
theorem times_in (hp : Nm p) (hq : Nm q) : C (n + 3) 6 [.d (fr p), .d (fr q)] S = .ok (.d (fr (ti p q))) S := by
  obtain ⟨m1, m2, m3, m4, m5⟩ := mul_ok p q hk h h'
  have d := low_run n (p.1 * q.1) (p.2 * q.2) S (Int.mul_ne_zero hp.ne hq.ne) ((h.b.mul h'.b).mono (by omega))
  rw [call_at (fd := ⟨2, 2, b6⟩) rfl, r_run _ _ _ _ _ _ rfl]
  simp [b6, e_kN, e_kB, e_kI, e_kS, e_var, e_glb, e_fnv, e_typ, e_neg, e_bin, e_cmp, e_chn, e_and, e_or, e_not, e_ife, e_tup, e_lst, e_ix, e_slc, e_call, e_bi, e_mt, e_lc, e_dc, t_and, t_or, t_not, t_var, t_cmp, t_chn, t_call, t_bi, t_ix, i_var, i_call, i_bi, i_rng, i_zip, ss_nil, ss_cons, so_none, so_some, ea_nil, ea_cons, an_1, an_2, or_1, or_2, tan_1, tan_2, tor_1, tor_2, tal_0, tal_1, ep_0, ep_1, st_, st2_, tu_nil, tu_c, w_0, w_s, ca_ok, at1, at2_0, at2_1, at4_0, at4_1, at4_2, at4_3, bo_nil, bo_c, io_nil, io_c, is_int, is_intb, is_tup, g_0, g_s, p_d, p_own, p_ref, d_d, d_own, a_d, a_own, a_ref, c_lst, c_dct, pk_nil, pk_cons, sa_nil, sa_cons, ao_nil, ao_cons, b_add, b_sub, b_mul, b_div, b_mod, b_pow, b_cat, n_int, n_bl, cv, c_eq, c_ne, c_lt, c_le, c_gt, c_ge, c_in, c_notIn, eq_int, x_lst, x_tup, x_dct, tr_bl, tr_int, bi_len, bi_lent, bi_abs, bi_int, bi_all, bi_list, bi_listk, bi_listt, bi_tuple, bi_tuplet, io_lst, io_klst, io_tup, k_nil, k_cons, k_asg, k_asgS, k_asgN, k_setix, k_ex, k_ret, k_retN, k_iff, k_whl, k_for, k_brk, k_cont, lo_nil, lo_cons, li_some, as_nm, as_tup, as_0, as_s, f_rt, f_own, f_nx, R.bind_ok, R.of_some, Option.bind_some, Option.map_some, List.length_cons, List.length_nil, List.set_cons_zero, List.set_cons_succ, List.map_cons, List.map_nil, List.replicate, List.cons_append, List.nil_append, if_true, if_false, Bool.false_eq_true, m4, m3, d, ti]
theorem over_in (hp : Nm p) (hq : q.1 ≠ 0) : C (n + 3) 7 [.d (fr p), .d (fr q)] S = .ok (.d (fr (ov p q))) S := by
  obtain ⟨m1, m2, m3, m4, m5⟩ := mul_ok p q hk h h'
  have d := low_run n (p.1 * q.2) (p.2 * q.1) S (Int.mul_ne_zero hp.ne hq) ((h.b.mul h'.a).mono (by omega))
  rw [call_at (fd := ⟨2, 2, b7⟩) rfl, r_run _ _ _ _ _ _ rfl]
  simp [b7, e_kN, e_kB, e_kI, e_kS, e_var, e_glb, e_fnv, e_typ, e_neg, e_bin, e_cmp, e_chn, e_and, e_or, e_not, e_ife, e_tup, e_lst, e_ix, e_slc, e_call, e_bi, e_mt, e_lc, e_dc, t_and, t_or, t_not, t_var, t_cmp, t_chn, t_call, t_bi, t_ix, i_var, i_call, i_bi, i_rng, i_zip, ss_nil, ss_cons, so_none, so_some, ea_nil, ea_cons, an_1, an_2, or_1, or_2, tan_1, tan_2, tor_1, tor_2, tal_0, tal_1, ep_0, ep_1, st_, st2_, tu_nil, tu_c, w_0, w_s, ca_ok, at1, at2_0, at2_1, at4_0, at4_1, at4_2, at4_3, bo_nil, bo_c, io_nil, io_c, is_int, is_intb, is_tup, g_0, g_s, p_d, p_own, p_ref, d_d, d_own, a_d, a_own, a_ref, c_lst, c_dct, pk_nil, pk_cons, sa_nil, sa_cons, ao_nil, ao_cons, b_add, b_sub, b_mul, b_div, b_mod, b_pow, b_cat, n_int, n_bl, cv, c_eq, c_ne, c_lt, c_le, c_gt, c_ge, c_in, c_notIn, eq_int, x_lst, x_tup, x_dct, tr_bl, tr_int, bi_len, bi_lent, bi_abs, bi_int, bi_all, bi_list, bi_listk, bi_listt, bi_tuple, bi_tuplet, io_lst, io_klst, io_tup, k_nil, k_cons, k_asg, k_asgS, k_asgN, k_setix, k_ex, k_ret, k_retN, k_iff, k_whl, k_for, k_brk, k_cont, lo_nil, lo_cons, li_some, as_nm, as_tup, as_0, as_s, f_rt, f_own, f_nx, R.bind_ok, R.of_some, Option.bind_some, Option.map_some, List.length_cons, List.length_nil, List.set_cons_zero, List.set_cons_succ, List.map_cons, List.map_nil, List.replicate, List.cons_append, List.nil_append, if_true, if_false, Bool.false_eq_true, m1, m5, d, ov]
theorem before_in : C (n + 1) 8 [.d (fr p), .d (fr q)] S = .ok (.d (.bl (decide (p.1 * q.2 < q.1 * p.2)))) S := by
  obtain ⟨m1, m2, m3, m4, m5⟩ := mul_ok p q hk h h'
  rw [call_at (fd := ⟨2, 2, b8⟩) rfl, r_run _ _ _ _ _ _ rfl]
  simp [b8, e_kN, e_kB, e_kI, e_kS, e_var, e_glb, e_fnv, e_typ, e_neg, e_bin, e_cmp, e_chn, e_and, e_or, e_not, e_ife, e_tup, e_lst, e_ix, e_slc, e_call, e_bi, e_mt, e_lc, e_dc, t_and, t_or, t_not, t_var, t_cmp, t_chn, t_call, t_bi, t_ix, i_var, i_call, i_bi, i_rng, i_zip, ss_nil, ss_cons, so_none, so_some, ea_nil, ea_cons, an_1, an_2, or_1, or_2, tan_1, tan_2, tor_1, tor_2, tal_0, tal_1, ep_0, ep_1, st_, st2_, tu_nil, tu_c, w_0, w_s, ca_ok, at1, at2_0, at2_1, at4_0, at4_1, at4_2, at4_3, bo_nil, bo_c, io_nil, io_c, is_int, is_intb, is_tup, g_0, g_s, p_d, p_own, p_ref, d_d, d_own, a_d, a_own, a_ref, c_lst, c_dct, pk_nil, pk_cons, sa_nil, sa_cons, ao_nil, ao_cons, b_add, b_sub, b_mul, b_div, b_mod, b_pow, b_cat, n_int, n_bl, cv, c_eq, c_ne, c_lt, c_le, c_gt, c_ge, c_in, c_notIn, eq_int, x_lst, x_tup, x_dct, tr_bl, tr_int, bi_len, bi_lent, bi_abs, bi_int, bi_all, bi_list, bi_listk, bi_listt, bi_tuple, bi_tuplet, io_lst, io_klst, io_tup, k_nil, k_cons, k_asg, k_asgS, k_asgN, k_setix, k_ex, k_ret, k_retN, k_iff, k_whl, k_for, k_brk, k_cont, lo_nil, lo_cons, li_some, as_nm, as_tup, as_0, as_s, f_rt, f_own, f_nx, R.bind_ok, R.of_some, Option.bind_some, Option.map_some, List.length_cons, List.length_nil, List.set_cons_zero, List.set_cons_succ, List.map_cons, List.map_nil, List.replicate, List.cons_append, List.nil_append, if_true, if_false, Bool.false_eq_true, m1, m2]
end
end K03

set_option maxHeartbeats 2000000
namespace K03
open Mi
open PySem (Str)
/-! ### the law's own lowest terms -/
abbrev lB : List Sx := [.iff (.cmp .Eq (.var 3) (.kI 0)) [.brk] [], .asgS [(.nm 2), (.nm 3)] (.tup [(.var 3), (.bin .Sub (.var 2) (.bin .Mult (.bin .FloorDiv (.var 2) (.var 3)) (.var 3)))])]
def lL (Fs : Fns) : D → SM := fun x E S => (R.of (asgT (.nm 4) x E) S).bind fun E' S => semB Fs gs 100000 lB E' S
theorem lL_eq (Fs : Fns) (x : D) (E : Env) (S : Store) : lL Fs x E S = (R.of (asgT (.nm 4) x E) S).bind fun E' S => semB Fs gs 100000 lB E' S := rfl
theorem low_b (Fs : Fns) (u v : Val) (w : Option Val) (d : D) (x y : Nat) (S : Store) (hx : x < 2 ^ 8000) (hy : y < 2 ^ 8000) (h : 0 < y) : lL Fs d [some u, some v, some (I x), some (I y), w] S = .ok (.nx, [some u, some v, some (I y), some (I ((x % y : Nat) : Int)), some (.d d)]) S := by
  have e0 : ((y : Int) == 0) = false := by simp; omega
  have g1 : cdivB (y : Int) = true := cdiv_ok (k := 8000) (by show ((y : Int)).natAbs < _; rw [Int.natAbs_natCast]; exact hy) (by omega) (by omega)
  have g2 : cmulB ((x : Int) / (y : Int)) (y : Int) = true := by
    refine cmul_ok (k := 8000) (l := 8000) ?_ (by show ((y : Int)).natAbs < _; rw [Int.natAbs_natCast]; exact hy) (by omega)
    show ((x : Int) / (y : Int)).natAbs < _
    rw [← Int.natCast_ediv, Int.natAbs_natCast]
    exact Nat.lt_of_le_of_lt (Nat.div_le_self _ _) hx
  have e3 : (x : Int) - (x : Int) / (y : Int) * (y : Int) = ((x % y : Nat) : Int) := by
    rw [Int.natCast_emod, Int.emod_def, Int.mul_comm]
  simp [lL_eq, e_kN, e_kB, e_kI, e_kS, e_var, e_glb, e_fnv, e_typ, e_neg, e_bin, e_cmp, e_chn, e_and, e_or, e_not, e_ife, e_tup, e_lst, e_ix, e_slc, e_call, e_bi, e_mt, e_lc, e_dc, t_and, t_or, t_not, t_var, t_cmp, t_chn, t_call, t_bi, t_ix, i_var, i_call, i_bi, i_rng, i_zip, ss_nil, ss_cons, so_none, so_some, ea_nil, ea_cons, an_1, an_2, or_1, or_2, tan_1, tan_2, tor_1, tor_2, tal_0, tal_1, ep_0, ep_1, st_, st2_, tu_nil, tu_c, w_0, w_s, ca_ok, at1, at2_0, at2_1, at4_0, at4_1, at4_2, at4_3, bo_nil, bo_c, io_nil, io_c, is_int, is_intb, is_tup, g_0, g_s, p_d, p_own, p_ref, d_d, d_own, a_d, a_own, a_ref, c_lst, c_dct, pk_nil, pk_cons, sa_nil, sa_cons, ao_nil, ao_cons, b_add, b_sub, b_mul, b_div, b_mod, b_pow, b_cat, n_int, n_bl, cv, c_eq, c_ne, c_lt, c_le, c_gt, c_ge, c_in, c_notIn, eq_int, x_lst, x_tup, x_dct, tr_bl, tr_int, bi_len, bi_lent, bi_abs, bi_int, bi_all, bi_list, bi_listk, bi_listt, bi_tuple, bi_tuplet, io_lst, io_klst, io_tup, k_nil, k_cons, k_asg, k_asgS, k_asgN, k_setix, k_ex, k_ret, k_retN, k_iff, k_whl, k_for, k_brk, k_cont, lo_nil, lo_cons, li_some, as_nm, as_tup, as_0, as_s, f_rt, f_own, f_nx, R.bind_ok, R.of_some, Option.bind_some, Option.map_some, List.length_cons, List.length_nil, List.set_cons_zero, List.set_cons_succ, List.map_cons, List.map_nil, List.replicate, List.cons_append, List.nil_append, if_true, if_false, Bool.false_eq_true, eq_int, e0, g1, g2, PySem.sizeLine, e3]
theorem low_loop (Fs : Fns) (u v : Val) (S : Store) : ∀ (k : Nat) (xs : List D) (x y : Nat) (w : Option Val), x < 2 ^ 8000 → y < 2 ^ 8000 → y < 2 ^ k → 2 * k + 1 ≤ xs.length → ∃ w', loop (lL Fs) xs [some u, some v, some (I x), some (I y), w] S = .ok (.nx, [some u, some v, some (I (Nat.gcd x y : Nat)), some (I 0), w']) S := by
  intro k
  have zero : ∀ (xs : List D) (x : Nat) (w : Option Val), 1 ≤ xs.length → ∃ w', loop (lL Fs) xs [some u, some v, some (I x), some (I (0 : Nat)), w] S = .ok (.nx, [some u, some v, some (I (Nat.gcd x 0 : Nat)), some (I 0), w']) S := fun xs x w hn => by
    cases xs with
    | nil => simp at hn
    | cons d xs =>
      refine ⟨some (.d d), ?_⟩
      rw [lo_cons]
      simp [lL_eq, e_kN, e_kB, e_kI, e_kS, e_var, e_glb, e_fnv, e_typ, e_neg, e_bin, e_cmp, e_chn, e_and, e_or, e_not, e_ife, e_tup, e_lst, e_ix, e_slc, e_call, e_bi, e_mt, e_lc, e_dc, t_and, t_or, t_not, t_var, t_cmp, t_chn, t_call, t_bi, t_ix, i_var, i_call, i_bi, i_rng, i_zip, ss_nil, ss_cons, so_none, so_some, ea_nil, ea_cons, an_1, an_2, or_1, or_2, tan_1, tan_2, tor_1, tor_2, tal_0, tal_1, ep_0, ep_1, st_, st2_, tu_nil, tu_c, w_0, w_s, ca_ok, at1, at2_0, at2_1, at4_0, at4_1, at4_2, at4_3, bo_nil, bo_c, io_nil, io_c, is_int, is_intb, is_tup, g_0, g_s, p_d, p_own, p_ref, d_d, d_own, a_d, a_own, a_ref, c_lst, c_dct, pk_nil, pk_cons, sa_nil, sa_cons, ao_nil, ao_cons, b_add, b_sub, b_mul, b_div, b_mod, b_pow, b_cat, n_int, n_bl, cv, c_eq, c_ne, c_lt, c_le, c_gt, c_ge, c_in, c_notIn, eq_int, x_lst, x_tup, x_dct, tr_bl, tr_int, bi_len, bi_lent, bi_abs, bi_int, bi_all, bi_list, bi_listk, bi_listt, bi_tuple, bi_tuplet, io_lst, io_klst, io_tup, k_nil, k_cons, k_asg, k_asgS, k_asgN, k_setix, k_ex, k_ret, k_retN, k_iff, k_whl, k_for, k_brk, k_cont, lo_nil, lo_cons, li_some, as_nm, as_tup, as_0, as_s, f_rt, f_own, f_nx, R.bind_ok, R.of_some, Option.bind_some, Option.map_some, List.length_cons, List.length_nil, List.set_cons_zero, List.set_cons_succ, List.map_cons, List.map_nil, List.replicate, List.cons_append, List.nil_append, if_true, if_false, Bool.false_eq_true, eq_int]
  have step : ∀ (d : D) (xs : List D) (x y : Nat) (w : Option Val), x < 2 ^ 8000 → y < 2 ^ 8000 → 0 < y → loop (lL Fs) (d :: xs) [some u, some v, some (I x), some (I y), w] S = loop (lL Fs) xs [some u, some v, some (I y), some (I (x % y : Nat)), some (.d d)] S := fun d xs x y w hx hy h => by
    rw [lo_cons, low_b Fs u v w d x y S hx hy h]
    rfl
  induction k with
  | zero => intro xs x y w _ _ hy hn; obtain rfl : y = 0 := by simpa using hy
            exact zero xs x w (by omega)
  | succ k ih =>
    intro xs x y w hx hy hk hn
    rcases Nat.eq_zero_or_pos y with e | e
    · subst e; exact zero xs x w (by omega)
    · match xs, hn with
      | d1 :: d2 :: xs, hn =>
        rw [step d1 (d2 :: xs) x y w hx hy e]
        have g1 : Nat.gcd x y = Nat.gcd y (x % y) := by rw [Nat.gcd_comm x y, Nat.gcd_rec y x, Nat.gcd_comm]
        rw [g1]
        have hz : x % y < 2 ^ 8000 := Nat.lt_trans (Nat.mod_lt _ e) hy
        rcases Nat.eq_zero_or_pos (x % y) with e2 | e2
        · rw [e2]; exact zero (d2 :: xs) y _ (by simp)
        · rw [step d2 xs y (x % y) _ hy hz e2]
          have g2 : Nat.gcd y (x % y) = Nat.gcd (x % y) (y % (x % y)) := by rw [Nat.gcd_comm y, Nat.gcd_rec (x % y) y, Nat.gcd_comm]
          rw [g2]
          exact ih xs (x % y) (y % (x % y)) _ hz (Nat.lt_trans (Nat.mod_lt _ e2) hz) (half hk e2) (by simp at hn; omega)
      | [_], hn => exact absurd hn (by simp)
      | [], hn => exact absurd hn (by simp)
theorem rng_9000 : rngD [.int 9000] = some (upTo 0 9000) := rfl
theorem upTo_len' : ∀ (n : Nat) (lo : Int), (upTo lo n).length = n
  | 0, _ => rfl
  | n + 1, lo => by unfold upTo; rw [List.length_cons, upTo_len' n]
theorem for_low (Fs : Fns) (E : Env) (S : Store) : semS Fs gs 100000 (.for (.nm 4) (.rng [.kI 9000]) lB) E S = loop (lL Fs) (upTo 0 9000) E S := rfl
theorem llow_run (n : Nat) (u v : Int) (S : Store) (h : v ≠ 0) (hu : B 4000 u) (hv : B 4000 v) : C (n + 1) 29 [I u, I v] S = .ok (.d (fr (lo u v))) S := by
  have up : ∀ {i : Int}, B 4000 i → i.natAbs < 2 ^ 8000 := fun h => h.mono (l := 8000) (by omega)
  obtain ⟨w', q⟩ := low_loop (C n) (I u) (I v) S 4000 (upTo 0 9000) u.natAbs v.natAbs none (up hu) (up hv) hv (by rw [upTo_len']; omega)
  have gB : B 4000 (Int.gcd u v : Int) := by
    show ((Int.gcd u v : Int)).natAbs < _
    rw [Int.natAbs_natCast]
    exact Nat.lt_of_le_of_lt (Nat.le_of_dvd (by omega) (Int.gcd_dvd_natAbs_right u v)) hv
  have gd : cdivB (Int.gcd u v : Int) = true := cdiv_ok gB (gcd_pos h) (by omega)
  have gp : ((u.natAbs.gcd v.natAbs : Nat) : Int) = (Int.gcd u v : Int) := rfl
  rw [call_at (fd := ⟨2, 5, b29⟩) rfl, r_run _ _ _ _ _ _ rfl]
  by_cases h2 : v < 0
  · have h3 : ¬ (0 < v) := by omega
    simp [b29, e_kN, e_kB, e_kI, e_kS, e_var, e_glb, e_fnv, e_typ, e_neg, e_bin, e_cmp, e_chn, e_and, e_or, e_not, e_ife, e_tup, e_lst, e_ix, e_slc, e_call, e_bi, e_mt, e_lc, e_dc, t_and, t_or, t_not, t_var, t_cmp, t_chn, t_call, t_bi, t_ix, i_var, i_call, i_bi, i_rng, i_zip, ss_nil, ss_cons, so_none, so_some, ea_nil, ea_cons, an_1, an_2, or_1, or_2, tan_1, tan_2, tor_1, tor_2, tal_0, tal_1, ep_0, ep_1, st_, st2_, tu_nil, tu_c, w_0, w_s, ca_ok, at1, at2_0, at2_1, at4_0, at4_1, at4_2, at4_3, bo_nil, bo_c, io_nil, io_c, is_int, is_intb, is_tup, g_0, g_s, p_d, p_own, p_ref, d_d, d_own, a_d, a_own, a_ref, c_lst, c_dct, pk_nil, pk_cons, sa_nil, sa_cons, ao_nil, ao_cons, b_add, b_sub, b_mul, b_div, b_mod, b_pow, b_cat, n_int, n_bl, cv, c_eq, c_ne, c_lt, c_le, c_gt, c_ge, c_in, c_notIn, eq_int, x_lst, x_tup, x_dct, tr_bl, tr_int, bi_len, bi_lent, bi_abs, bi_int, bi_all, bi_list, bi_listk, bi_listt, bi_tuple, bi_tuplet, io_lst, io_klst, io_tup, k_nil, k_cons, k_asg, k_asgS, k_asgN, k_setix, k_ex, k_ret, k_retN, k_iff, k_whl, k_for, k_brk, k_cont, lo_nil, lo_cons, li_some, as_nm, as_tup, as_0, as_s, f_rt, f_own, f_nx, R.bind_ok, R.of_some, Option.bind_some, Option.map_some, List.length_cons, List.length_nil, List.set_cons_zero, List.set_cons_succ, List.map_cons, List.map_nil, List.replicate, List.cons_append, List.nil_append, if_true, if_false, Bool.false_eq_true, -k_for, for_low, q, h2, h3, PySem.sizeLine, gd, lo, gp]
  · have h3 : 0 < v := by omega
    simp [b29, e_kN, e_kB, e_kI, e_kS, e_var, e_glb, e_fnv, e_typ, e_neg, e_bin, e_cmp, e_chn, e_and, e_or, e_not, e_ife, e_tup, e_lst, e_ix, e_slc, e_call, e_bi, e_mt, e_lc, e_dc, t_and, t_or, t_not, t_var, t_cmp, t_chn, t_call, t_bi, t_ix, i_var, i_call, i_bi, i_rng, i_zip, ss_nil, ss_cons, so_none, so_some, ea_nil, ea_cons, an_1, an_2, or_1, or_2, tan_1, tan_2, tor_1, tor_2, tal_0, tal_1, ep_0, ep_1, st_, st2_, tu_nil, tu_c, w_0, w_s, ca_ok, at1, at2_0, at2_1, at4_0, at4_1, at4_2, at4_3, bo_nil, bo_c, io_nil, io_c, is_int, is_intb, is_tup, g_0, g_s, p_d, p_own, p_ref, d_d, d_own, a_d, a_own, a_ref, c_lst, c_dct, pk_nil, pk_cons, sa_nil, sa_cons, ao_nil, ao_cons, b_add, b_sub, b_mul, b_div, b_mod, b_pow, b_cat, n_int, n_bl, cv, c_eq, c_ne, c_lt, c_le, c_gt, c_ge, c_in, c_notIn, eq_int, x_lst, x_tup, x_dct, tr_bl, tr_int, bi_len, bi_lent, bi_abs, bi_int, bi_all, bi_list, bi_listk, bi_listt, bi_tuple, bi_tuplet, io_lst, io_klst, io_tup, k_nil, k_cons, k_asg, k_asgS, k_asgN, k_setix, k_ex, k_ret, k_retN, k_iff, k_whl, k_for, k_brk, k_cont, lo_nil, lo_cons, li_some, as_nm, as_tup, as_0, as_s, f_rt, f_own, f_nx, R.bind_ok, R.of_some, Option.bind_some, Option.map_some, List.length_cons, List.length_nil, List.set_cons_zero, List.set_cons_succ, List.map_cons, List.map_nil, List.replicate, List.cons_append, List.nil_append, if_true, if_false, Bool.false_eq_true, -k_for, for_low, q, h2, h3, PySem.sizeLine, gd, lo, gp]
theorem lo_nm (u v : Int) (h : v ≠ 0) : Nm (lo u v) := by
  have g0 := gcd_pos (u := u) h
  have g0' : 0 < Int.gcd u v := by omega
  unfold lo
  by_cases h2 : v < 0
  · rw [if_pos h2]
    refine ⟨?_, ?_⟩
    · show 0 < -v / (Int.gcd u v : Int)
      exact Int.ediv_pos_of_pos_of_dvd (by omega) (by omega) (Int.dvd_neg.mpr (Int.gcd_dvd_right u v))
    · show Int.gcd (-u / (Int.gcd u v : Int)) (-v / (Int.gcd u v : Int)) = 1
      rw [Int.neg_ediv_of_dvd (Int.gcd_dvd_left u v), Int.neg_ediv_of_dvd (Int.gcd_dvd_right u v), Int.gcd_neg, Int.neg_gcd]
      exact Int.gcd_ediv_gcd_ediv_gcd g0'
  · rw [if_neg h2]
    refine ⟨?_, ?_⟩
    · show 0 < v / (Int.gcd u v : Int)
      exact Int.ediv_pos_of_pos_of_dvd (by omega) (by omega) (Int.gcd_dvd_right u v)
    · exact Int.gcd_ediv_gcd_ediv_gcd g0'
end K03

set_option maxHeartbeats 2000000
namespace K03
open Mi
open PySem (Str)
/-! ### draws: the cursor is the one cell -/
abbrev cell (ns : List Int) (p q s : Int) : Cell := .lst [.lst (ns.map .int), .int p, .int q, .int s]
structure Cur (ns : List Int) (S : Store) : Prop where
  ex : ∃ p q s : Int, S = [cell ns p q s] ∧ 0 ≤ p ∧ 0 ≤ q ∧ 0 ≤ s ∧ s < 2 ^ 32
theorem set_i (xs : List D) (i : Int) (j : Nat) (x : D) (h : L2.ixN xs.length i = some j) : setAt (.ref 0) (.int i) x [.lst xs] = some [.lst (xs.set j x)] := by
  unfold setAt
  simp only [List.getElem?_cons_zero]
  rw [h]
  rfl
theorem set_1 (a b c d x : D) : setAt (.ref 0) (.int 1) x [.lst [a, b, c, d]] = some [.lst [a, x, c, d]] := rfl
theorem set_2 (a b c d x : D) : setAt (.ref 0) (.int 2) x [.lst [a, b, c, d]] = some [.lst [a, b, x, d]] := rfl
theorem set_3 (a b c d x : D) : setAt (.ref 0) (.int 3) x [.lst [a, b, c, d]] = some [.lst [a, b, c, x]] := rfl
theorem st_0 (c : Cell) : ([c] : Store)[0]? = some c := rfl
theorem at_int (ns : List Int) (q : Nat) (h : q < ns.length) : L2.atI (ns.map D.int) (q : Int) = some (.int ns[q]) := by
  refine L2.atI_nat ?_
  rw [List.getElem?_map, List.getElem?_eq_getElem h]
  rfl
theorem draw_run (n : Nat) (ns : List Int) (S : Store) (m : Int) (c : Cur ns S) (h : 0 < m) (hm : cdivB m = true) : ∃ r S', C (n + 1) 26 [.ref 0, I m] S = .ok (I r) S' ∧ 0 ≤ r ∧ r < m ∧ Cur ns S' := by
  obtain ⟨p, q, s, rfl, hp, hq, hs, hs2⟩ := c.ex
  have c48 : cmulB s 48271 = true := cmul_ok (k := 32) (l := 20) (by unfold B; omega) (by unfold B; decide) (by omega)
  have d13 : cdivB 13 = true := by decide
  rw [call_at (fd := ⟨2, 3, b26⟩) rfl, r_run _ _ _ _ _ _ rfl]
  by_cases e1 : p = 0
  · subst e1
    by_cases e2 : (ns.length : Int) ≤ q
    · refine ⟨(s * 48271 + 69621) % 2147483629 / 13 % m, [cell ns 0 q ((s * 48271 + 69621) % 2147483629)], ?_, Int.emod_nonneg _ (by omega), Int.emod_lt_of_pos _ h, ⟨0, q, _, rfl, by omega, hq, Int.emod_nonneg _ (by omega), ?_⟩⟩
      · simp [b26, e_kN, e_kB, e_kI, e_kS, e_var, e_glb, e_fnv, e_typ, e_neg, e_bin, e_cmp, e_chn, e_and, e_or, e_not, e_ife, e_tup, e_lst, e_ix, e_slc, e_call, e_bi, e_mt, e_lc, e_dc, t_and, t_or, t_not, t_var, t_cmp, t_chn, t_call, t_bi, t_ix, i_var, i_call, i_bi, i_rng, i_zip, ss_nil, ss_cons, so_none, so_some, ea_nil, ea_cons, an_1, an_2, or_1, or_2, tan_1, tan_2, tor_1, tor_2, tal_0, tal_1, ep_0, ep_1, st_, st2_, tu_nil, tu_c, w_0, w_s, ca_ok, at1, at2_0, at2_1, at4_0, at4_1, at4_2, at4_3, bo_nil, bo_c, io_nil, io_c, is_int, is_intb, is_tup, g_0, g_s, p_d, p_own, p_ref, d_d, d_own, a_d, a_own, a_ref, c_lst, c_dct, pk_nil, pk_cons, sa_nil, sa_cons, ao_nil, ao_cons, b_add, b_sub, b_mul, b_div, b_mod, b_pow, b_cat, n_int, n_bl, cv, c_eq, c_ne, c_lt, c_le, c_gt, c_ge, c_in, c_notIn, eq_int, x_lst, x_tup, x_dct, tr_bl, tr_int, bi_len, bi_lent, bi_abs, bi_int, bi_all, bi_list, bi_listk, bi_listt, bi_tuple, bi_tuplet, io_lst, io_klst, io_tup, k_nil, k_cons, k_asg, k_asgS, k_asgN, k_setix, k_ex, k_ret, k_retN, k_iff, k_whl, k_for, k_brk, k_cont, lo_nil, lo_cons, li_some, as_nm, as_tup, as_0, as_s, f_rt, f_own, f_nx, R.bind_ok, R.of_some, Option.bind_some, Option.map_some, List.length_cons, List.length_nil, List.set_cons_zero, List.set_cons_succ, List.map_cons, List.map_nil, List.replicate, List.cons_append, List.nil_append, if_true, if_false, Bool.false_eq_true, eq_int, st_0, set_3, e2, c48, d13, h]
      · have := Int.emod_lt_of_pos (s * 48271 + 69621) (show (0 : Int) < 2147483629 by omega)
        omega
    · obtain ⟨k, rfl⟩ : ∃ k : Nat, q = k := ⟨q.toNat, by omega⟩
      have hk : k < ns.length := by omega
      have a1 := at_int ns k hk
      have e3 : ¬ ((ns.length : Int) ≤ (k : Int)) := e2
      refine ⟨(ns[k].natAbs : Int) % m, [cell ns ((ns[k].natAbs : Int) / m) (k + 1) s], ?_, Int.emod_nonneg _ (by omega), Int.emod_lt_of_pos _ h, ⟨_, _, s, rfl, Int.ediv_nonneg (by omega) (by omega), by omega, hs, hs2⟩⟩
      simp [b26, e_kN, e_kB, e_kI, e_kS, e_var, e_glb, e_fnv, e_typ, e_neg, e_bin, e_cmp, e_chn, e_and, e_or, e_not, e_ife, e_tup, e_lst, e_ix, e_slc, e_call, e_bi, e_mt, e_lc, e_dc, t_and, t_or, t_not, t_var, t_cmp, t_chn, t_call, t_bi, t_ix, i_var, i_call, i_bi, i_rng, i_zip, ss_nil, ss_cons, so_none, so_some, ea_nil, ea_cons, an_1, an_2, or_1, or_2, tan_1, tan_2, tor_1, tor_2, tal_0, tal_1, ep_0, ep_1, st_, st2_, tu_nil, tu_c, w_0, w_s, ca_ok, at1, at2_0, at2_1, at4_0, at4_1, at4_2, at4_3, bo_nil, bo_c, io_nil, io_c, is_int, is_intb, is_tup, g_0, g_s, p_d, p_own, p_ref, d_d, d_own, a_d, a_own, a_ref, c_lst, c_dct, pk_nil, pk_cons, sa_nil, sa_cons, ao_nil, ao_cons, b_add, b_sub, b_mul, b_div, b_mod, b_pow, b_cat, n_int, n_bl, cv, c_eq, c_ne, c_lt, c_le, c_gt, c_ge, c_in, c_notIn, eq_int, x_lst, x_tup, x_dct, tr_bl, tr_int, bi_len, bi_lent, bi_abs, bi_int, bi_all, bi_list, bi_listk, bi_listt, bi_tuple, bi_tuplet, io_lst, io_klst, io_tup, k_nil, k_cons, k_asg, k_asgS, k_asgN, k_setix, k_ex, k_ret, k_retN, k_iff, k_whl, k_for, k_brk, k_cont, lo_nil, lo_cons, li_some, as_nm, as_tup, as_0, as_s, f_rt, f_own, f_nx, R.bind_ok, R.of_some, Option.bind_some, Option.map_some, List.length_cons, List.length_nil, List.set_cons_zero, List.set_cons_succ, List.map_cons, List.map_nil, List.replicate, List.cons_append, List.nil_append, if_true, if_false, Bool.false_eq_true, eq_int, st_0, set_1, set_2, e3, a1, h, hm]
  · have e0 : (p == 0) = false := by simpa using e1
    refine ⟨p % m, [cell ns (p / m) q s], ?_, Int.emod_nonneg _ (by omega), Int.emod_lt_of_pos _ h, ⟨_, q, s, rfl, Int.ediv_nonneg hp (by omega), hq, hs, hs2⟩⟩
    simp [b26, e_kN, e_kB, e_kI, e_kS, e_var, e_glb, e_fnv, e_typ, e_neg, e_bin, e_cmp, e_chn, e_and, e_or, e_not, e_ife, e_tup, e_lst, e_ix, e_slc, e_call, e_bi, e_mt, e_lc, e_dc, t_and, t_or, t_not, t_var, t_cmp, t_chn, t_call, t_bi, t_ix, i_var, i_call, i_bi, i_rng, i_zip, ss_nil, ss_cons, so_none, so_some, ea_nil, ea_cons, an_1, an_2, or_1, or_2, tan_1, tan_2, tor_1, tor_2, tal_0, tal_1, ep_0, ep_1, st_, st2_, tu_nil, tu_c, w_0, w_s, ca_ok, at1, at2_0, at2_1, at4_0, at4_1, at4_2, at4_3, bo_nil, bo_c, io_nil, io_c, is_int, is_intb, is_tup, g_0, g_s, p_d, p_own, p_ref, d_d, d_own, a_d, a_own, a_ref, c_lst, c_dct, pk_nil, pk_cons, sa_nil, sa_cons, ao_nil, ao_cons, b_add, b_sub, b_mul, b_div, b_mod, b_pow, b_cat, n_int, n_bl, cv, c_eq, c_ne, c_lt, c_le, c_gt, c_ge, c_in, c_notIn, eq_int, x_lst, x_tup, x_dct, tr_bl, tr_int, bi_len, bi_lent, bi_abs, bi_int, bi_all, bi_list, bi_listk, bi_listt, bi_tuple, bi_tuplet, io_lst, io_klst, io_tup, k_nil, k_cons, k_asg, k_asgS, k_asgN, k_setix, k_ex, k_ret, k_retN, k_iff, k_whl, k_for, k_brk, k_cont, lo_nil, lo_cons, li_some, as_nm, as_tup, as_0, as_s, f_rt, f_own, f_nx, R.bind_ok, R.of_some, Option.bind_some, Option.map_some, List.length_cons, List.length_nil, List.set_cons_zero, List.set_cons_succ, List.map_cons, List.map_nil, List.replicate, List.cons_append, List.nil_append, if_true, if_false, Bool.false_eq_true, eq_int, st_0, set_1, e0, h, hm]
/-- the script's number -/
theorem start_loop (Fs : Fns) (v : Option Val) (S : Store) : ∀ (xs : List Int) (s : Int) (w : Option Val), 0 ≤ s → s < 2 ^ 32 → ∃ s' w', loop (fun x E S => (R.of (asgT (.nm 2) x E) S).bind fun E' S => semB Fs gs 100000 [.asg 1 (.bin .Add (.bin .Mod (.bi .int [(.bin .Add (.bin .Mult (.var 1) (.kI 48271)) (.var 2))]) (.kI 2147483629)) (.kI 1))] E' S) (xs.map .int) [v, some (I s), w] S = .ok (.nx, [v, some (I s'), w']) S ∧ 0 ≤ s' ∧ s' < 2 ^ 32
  | [], s, w, h0, h1 => ⟨s, w, rfl, h0, h1⟩
  | x :: xs, s, w, h0, h1 => by
    have c48 : cmulB s 48271 = true := cmul_ok (k := 32) (l := 20) (by unfold B; omega) (by unfold B; decide) (by omega)
    have g1 := Int.emod_nonneg (s * 48271 + x) (show (2147483629 : Int) ≠ 0 by omega)
    have g2 := Int.emod_lt_of_pos (s * 48271 + x) (show (0 : Int) < 2147483629 by omega)
    obtain ⟨s', w', e, h2, h3⟩ := start_loop Fs v S xs ((s * 48271 + x) % 2147483629 + 1) (some (I x)) (by omega) (by omega)
    refine ⟨s', w', ?_, h2, h3⟩
    rw [← e, List.map_cons, lo_cons]
    congr 1
    simp [e_kN, e_kB, e_kI, e_kS, e_var, e_glb, e_fnv, e_typ, e_neg, e_bin, e_cmp, e_chn, e_and, e_or, e_not, e_ife, e_tup, e_lst, e_ix, e_slc, e_call, e_bi, e_mt, e_lc, e_dc, t_and, t_or, t_not, t_var, t_cmp, t_chn, t_call, t_bi, t_ix, i_var, i_call, i_bi, i_rng, i_zip, ss_nil, ss_cons, so_none, so_some, ea_nil, ea_cons, an_1, an_2, or_1, or_2, tan_1, tan_2, tor_1, tor_2, tal_0, tal_1, ep_0, ep_1, st_, st2_, tu_nil, tu_c, w_0, w_s, ca_ok, at1, at2_0, at2_1, at4_0, at4_1, at4_2, at4_3, bo_nil, bo_c, io_nil, io_c, is_int, is_intb, is_tup, g_0, g_s, p_d, p_own, p_ref, d_d, d_own, a_d, a_own, a_ref, c_lst, c_dct, pk_nil, pk_cons, sa_nil, sa_cons, ao_nil, ao_cons, b_add, b_sub, b_mul, b_div, b_mod, b_pow, b_cat, n_int, n_bl, cv, c_eq, c_ne, c_lt, c_le, c_gt, c_ge, c_in, c_notIn, eq_int, x_lst, x_tup, x_dct, tr_bl, tr_int, bi_len, bi_lent, bi_abs, bi_int, bi_all, bi_list, bi_listk, bi_listt, bi_tuple, bi_tuplet, io_lst, io_klst, io_tup, k_nil, k_cons, k_asg, k_asgS, k_asgN, k_setix, k_ex, k_ret, k_retN, k_iff, k_whl, k_for, k_brk, k_cont, lo_nil, lo_cons, li_some, as_nm, as_tup, as_0, as_s, f_rt, f_own, f_nx, R.bind_ok, R.of_some, Option.bind_some, Option.map_some, List.length_cons, List.length_nil, List.set_cons_zero, List.set_cons_succ, List.map_cons, List.map_nil, List.replicate, List.cons_append, List.nil_append, if_true, if_false, Bool.false_eq_true, c48]
theorem start_run (n : Nat) (ns : List Int) : ∃ s, C (n + 1) 25 [.d (kInts ns)] [] = .ok (.own (cell ns 0 0 s)) [] ∧ 0 ≤ s ∧ s < 2 ^ 32 := by
  obtain ⟨s, w, e, h0, h1⟩ := start_loop (C n) (some (.d (.klst (ns.map .int)))) [] ns 7 none (by omega) (by omega)
  refine ⟨s, ?_, h0, h1⟩
  rw [call_at (fd := ⟨1, 3, b25⟩) rfl, r_run _ _ _ _ _ _ rfl]
  have f : semS (C n) gs 100000 (.for (.nm 2) (.var 0) [.asg 1 (.bin .Add (.bin .Mod (.bi .int [(.bin .Add (.bin .Mult (.var 1) (.kI 48271)) (.var 2))]) (.kI 2147483629)) (.kI 1))]) [some (.d (.klst (ns.map .int))), some (I 7), none] [] = .ok (.nx, [some (.d (.klst (ns.map .int))), some (I s), w]) [] := e
  simp [b25, e_kN, e_kB, e_kI, e_kS, e_var, e_glb, e_fnv, e_typ, e_neg, e_bin, e_cmp, e_chn, e_and, e_or, e_not, e_ife, e_tup, e_lst, e_ix, e_slc, e_call, e_bi, e_mt, e_lc, e_dc, t_and, t_or, t_not, t_var, t_cmp, t_chn, t_call, t_bi, t_ix, i_var, i_call, i_bi, i_rng, i_zip, ss_nil, ss_cons, so_none, so_some, ea_nil, ea_cons, an_1, an_2, or_1, or_2, tan_1, tan_2, tor_1, tor_2, tal_0, tal_1, ep_0, ep_1, st_, st2_, tu_nil, tu_c, w_0, w_s, ca_ok, at1, at2_0, at2_1, at4_0, at4_1, at4_2, at4_3, bo_nil, bo_c, io_nil, io_c, is_int, is_intb, is_tup, g_0, g_s, p_d, p_own, p_ref, d_d, d_own, a_d, a_own, a_ref, c_lst, c_dct, pk_nil, pk_cons, sa_nil, sa_cons, ao_nil, ao_cons, b_add, b_sub, b_mul, b_div, b_mod, b_pow, b_cat, n_int, n_bl, cv, c_eq, c_ne, c_lt, c_le, c_gt, c_ge, c_in, c_notIn, eq_int, x_lst, x_tup, x_dct, tr_bl, tr_int, bi_len, bi_lent, bi_abs, bi_int, bi_all, bi_list, bi_listk, bi_listt, bi_tuple, bi_tuplet, io_lst, io_klst, io_tup, k_nil, k_cons, k_asg, k_asgS, k_asgN, k_setix, k_ex, k_ret, k_retN, k_iff, k_whl, k_for, k_brk, k_cont, lo_nil, lo_cons, li_some, as_nm, as_tup, as_0, as_s, f_rt, f_own, f_nx, R.bind_ok, R.of_some, Option.bind_some, Option.map_some, List.length_cons, List.length_nil, List.set_cons_zero, List.set_cons_succ, List.map_cons, List.map_nil, List.replicate, List.cons_append, List.nil_append, if_true, if_false, Bool.false_eq_true, -k_for, f, kInts, PySem.sizeLine]
theorem pick_run (n : Nat) (ns : List Int) (S : Store) (xs : List D) (c : Cur ns S) (h : xs ≠ []) (hl : xs.length < 2 ^ 60) : ∃ x S', C (n + 2) 27 [.ref 0, .d (.lst xs)] S = .ok (.d x) S' ∧ x ∈ xs ∧ Cur ns S' := by
  have h0 : 0 < xs.length := List.length_pos_iff.mpr h
  have hm : cdivB (xs.length : Int) = true := cdiv_ok (k := 60) (by unfold B; rw [Int.natAbs_natCast]; exact hl) (by omega) (by omega)
  obtain ⟨r, S', e, r0, r1, c'⟩ := draw_run n ns S xs.length c (by omega) hm
  obtain ⟨k, rfl⟩ : ∃ k : Nat, r = k := ⟨r.toNat, by omega⟩
  have hk : k < xs.length := by omega
  have a1 : L2.atI xs (k : Int) = some xs[k] := L2.atI_nat (List.getElem?_eq_getElem hk)
  refine ⟨xs[k], S', ?_, List.getElem_mem hk, c'⟩
  obtain ⟨p', q', s', rfl, _⟩ := c'.ex
  obtain ⟨p, q, s, rfl, _⟩ := c.ex
  rw [call_at (fd := ⟨2, 2, b27⟩) rfl, r_run _ _ _ _ _ _ rfl]
  simp [b27, e_kN, e_kB, e_kI, e_kS, e_var, e_glb, e_fnv, e_typ, e_neg, e_bin, e_cmp, e_chn, e_and, e_or, e_not, e_ife, e_tup, e_lst, e_ix, e_slc, e_call, e_bi, e_mt, e_lc, e_dc, t_and, t_or, t_not, t_var, t_cmp, t_chn, t_call, t_bi, t_ix, i_var, i_call, i_bi, i_rng, i_zip, ss_nil, ss_cons, so_none, so_some, ea_nil, ea_cons, an_1, an_2, or_1, or_2, tan_1, tan_2, tor_1, tor_2, tal_0, tal_1, ep_0, ep_1, st_, st2_, tu_nil, tu_c, w_0, w_s, ca_ok, at1, at2_0, at2_1, at4_0, at4_1, at4_2, at4_3, bo_nil, bo_c, io_nil, io_c, is_int, is_intb, is_tup, g_0, g_s, p_d, p_own, p_ref, d_d, d_own, a_d, a_own, a_ref, c_lst, c_dct, pk_nil, pk_cons, sa_nil, sa_cons, ao_nil, ao_cons, b_add, b_sub, b_mul, b_div, b_mod, b_pow, b_cat, n_int, n_bl, cv, c_eq, c_ne, c_lt, c_le, c_gt, c_ge, c_in, c_notIn, eq_int, x_lst, x_tup, x_dct, tr_bl, tr_int, bi_len, bi_lent, bi_abs, bi_int, bi_all, bi_list, bi_listk, bi_listt, bi_tuple, bi_tuplet, io_lst, io_klst, io_tup, k_nil, k_cons, k_asg, k_asgS, k_asgN, k_setix, k_ex, k_ret, k_retN, k_iff, k_whl, k_for, k_brk, k_cont, lo_nil, lo_cons, li_some, as_nm, as_tup, as_0, as_s, f_rt, f_own, f_nx, R.bind_ok, R.of_some, Option.bind_some, Option.map_some, List.length_cons, List.length_nil, List.set_cons_zero, List.set_cons_succ, List.map_cons, List.map_nil, List.replicate, List.cons_append, List.nil_append, if_true, if_false, Bool.false_eq_true, e, a1]
end K03

set_option maxHeartbeats 2000000
namespace K03
open Mi
open PySem (Str PyData)
/-! ### == and repr of answers -/
mutual
def okD : D → Bool
  | .non => true
  | .bl _ => true
  | .int i => decide (i.natAbs.log2 < 1900)
  | .str x => (PyData.str x).canLay0 && (PyData.str x).showable && (PyData.str x).leavesShort 2000
  | .lst xs => okDs xs
  | .tup xs => okDs xs
  | _ => false
def okDs : List D → Bool
  | [] => true
  | x :: xs => okD x && okDs xs
end
mutual
def cnt : D → Nat
  | .str x => (PyData.str x).bulk
  | .lst xs => cnts xs
  | .tup xs => cnts xs
  | _ => 0
def cnts : List D → Nat
  | [] => 0
  | x :: xs => cnt x + 1 + cnts xs
end
mutual
def dep : D → Nat
  | .lst xs => deps xs + 1
  | .tup xs => deps xs + 1
  | _ => 0
def deps : List D → Nat
  | [] => 0
  | x :: xs => max (dep x) (deps xs)
end
structure Okp (p : PyData) (n d : Nat) : Prop where
  lay : p.canLay0 = true
  show_ : p.showable = true
  short : p.leavesShort 2000 = true
  dp : p.depth = d
  bk : p.bulk = n
structure Okps (p : List PyData) (n d : Nat) : Prop where
  lay : PyData.canLayAll0 p = true
  show_ : PyData.showableAll p = true
  short : PyData.leavesShortAll 2000 p = true
  dp : PyData.depthAll p = d
  bk : PyData.bulkAll p = n
mutual
theorem okp : ∀ (x : D), okD x = true → ∃ p, x.py = some p ∧ Okp p (cnt x) (dep x)
  | .non, _ => ⟨_, rfl, rfl, rfl, rfl, rfl, rfl⟩
  | .bl _, _ => ⟨_, rfl, rfl, rfl, rfl, rfl, rfl⟩
  | .int i, h => by
    have h : i.natAbs.log2 < 1900 := of_decide_eq_true h
    have e := PySem.int_text_length_le (k := 1900) (by decide) h
    refine ⟨_, rfl, rfl, decide_eq_true (by omega), decide_eq_true ?_, rfl, rfl⟩
    show (Str.ofString (toString i)).length ≤ 2000
    rw [PySem.ofString_length]
    omega
  | .lst xs, h => by
    obtain ⟨ps, e, o⟩ := okps xs h
    refine ⟨.list ps, by unfold D.py; rw [e]; rfl, o.lay, o.show_, o.short, ?_, o.bk⟩
    show PyData.depthAll ps + 1 = deps xs + 1
    rw [o.dp]
  | .tup xs, h => by
    obtain ⟨ps, e, o⟩ := okps xs h
    refine ⟨.tuple ps, by unfold D.py; rw [e]; rfl, o.lay, o.show_, o.short, ?_, o.bk⟩
    show PyData.depthAll ps + 1 = deps xs + 1
    rw [o.dp]
  | .klst _, h => nomatch h
  | .str x, h => by
    have h : ((PyData.str x).canLay0 && (PyData.str x).showable && (PyData.str x).leavesShort 2000) = true := h
    simp only [Bool.and_eq_true] at h
    exact ⟨_, rfl, h.1.1, h.1.2, h.2, rfl, rfl⟩
  | .dct _ _, h => nomatch h
  | .fn _, h => nomatch h
  | .ty _, h => nomatch h
  | .cls _, h => nomatch h
theorem okps : ∀ (xs : List D), okDs xs = true → ∃ ps, pys xs = some ps ∧ Okps ps (cnts xs) (deps xs)
  | [], _ => ⟨[], rfl, rfl, rfl, rfl, rfl, rfl⟩
  | x :: xs, h => by
    obtain ⟨h1, h2⟩ := Bool.and_eq_true_iff.mp (show (okD x && okDs xs) = true from h)
    obtain ⟨p, e, o⟩ := okp x h1
    obtain ⟨ps, e2, o2⟩ := okps xs h2
    refine ⟨p :: ps, by unfold pys; rw [e, e2]; rfl, ?_, ?_, ?_, ?_, ?_⟩
    · show (p.canLay0 && PyData.canLayAll0 ps) = true
      rw [o.lay, o2.lay]; rfl
    · show (p.showable && PyData.showableAll ps) = true
      rw [o.show_, o2.show_]; rfl
    · show (p.leavesShort 2000 && PyData.leavesShortAll 2000 ps) = true
      rw [o.short, o2.short]; rfl
    · show max p.depth (PyData.depthAll ps) = max (dep x) (deps xs)
      rw [o.dp, o2.dp]
    · show p.bulk + 1 + PyData.bulkAll ps = cnt x + 1 + cnts xs
      rw [o.bk, o2.bk]
end
theorem eq_self (x : D) (h : okD x = true) (hd : dep x ≤ 40) : eqD x x = some true := by
  obtain ⟨p, e, o⟩ := okp x h
  have s : PySem.SeqAt.shaped p = true := by
    unfold PySem.SeqAt.shaped
    rw [o.lay, decide_eq_true (by have := o.dp; omega)]; rfl
  have z : strsD x x = none ∨ eqD x x = some true := by
    cases x <;> first | exact .inl rfl | (right; show some (decide _) = _; rw [decide_eq_true rfl])
  rcases z with z | z
  case inr => exact z
  unfold eqD
  rw [z]
  show (x.py.bind fun a => x.py.bind fun b => if PySem.SeqAt.shaped a && PySem.SeqAt.shaped b then some (PyData.eqv a b) else none) = _
  rw [e]
  simp only [Option.bind_some, s, Bool.and_self, if_true]
  rw [PySem.SeqAt.eqv_refl p o.lay]
theorem repr_ok (x : D) (h : okD x = true) (hd : dep x ≤ 40) (hc : cnt x ≤ 8000) : ∃ t, biD .repr [x] = some (.d (.str t)) := by
  obtain ⟨p, e, o⟩ := okp x h
  have l := PySem.PyData.shown_le_bulk 2000 (by omega) p o.short
  have b := o.bk
  have l2 : p.shown.length ≤ PySem.sizeLine := by
    have : (2000 + 2) * p.bulk ≤ 2002 * 8000 := Nat.mul_le_mul_left _ (by omega)
    have z : PySem.sizeLine = 16777216 := rfl
    omega
  refine ⟨p.shown, ?_⟩
  show (x.py.bind fun p => if p.showable && decide (p.depth ≤ 40) && decide (p.shown.length ≤ PySem.sizeLine) then some (Val.d (.str p.shown)) else none) = _
  rw [e]
  simp only [Option.bind_some, o.show_, decide_eq_true l2, decide_eq_true (show p.depth ≤ 40 by have := o.dp; omega), Bool.and_self, if_true]
theorem same_run (n : Nat) (x : D) (S : Store) (h : okD x = true) (hd : dep x ≤ 40) (hc : cnt x ≤ 8000) : C (n + 1) 28 [.d x, .d x] S = .ok (.d (.bl true)) S := by
  have e := eq_self x h hd
  obtain ⟨t, e2⟩ := repr_ok x h hd hc
  rw [call_at (fd := ⟨2, 2, b28⟩) rfl, r_run _ _ _ _ _ _ rfl]
  simp [b28, e_kN, e_kB, e_kI, e_kS, e_var, e_glb, e_fnv, e_typ, e_neg, e_bin, e_cmp, e_chn, e_and, e_or, e_not, e_ife, e_tup, e_lst, e_ix, e_slc, e_call, e_bi, e_mt, e_lc, e_dc, t_and, t_or, t_not, t_var, t_cmp, t_chn, t_call, t_bi, t_ix, i_var, i_call, i_bi, i_rng, i_zip, ss_nil, ss_cons, so_none, so_some, ea_nil, ea_cons, an_1, an_2, or_1, or_2, tan_1, tan_2, tor_1, tor_2, tal_0, tal_1, ep_0, ep_1, st_, st2_, tu_nil, tu_c, w_0, w_s, ca_ok, at1, at2_0, at2_1, at4_0, at4_1, at4_2, at4_3, bo_nil, bo_c, io_nil, io_c, is_int, is_intb, is_tup, g_0, g_s, p_d, p_own, p_ref, d_d, d_own, a_d, a_own, a_ref, c_lst, c_dct, pk_nil, pk_cons, sa_nil, sa_cons, ao_nil, ao_cons, b_add, b_sub, b_mul, b_div, b_mod, b_pow, b_cat, n_int, n_bl, cv, c_eq, c_ne, c_lt, c_le, c_gt, c_ge, c_in, c_notIn, eq_int, x_lst, x_tup, x_dct, tr_bl, tr_int, bi_len, bi_lent, bi_abs, bi_int, bi_all, bi_list, bi_listk, bi_listt, bi_tuple, bi_tuplet, io_lst, io_klst, io_tup, k_nil, k_cons, k_asg, k_asgS, k_asgN, k_setix, k_ex, k_ret, k_retN, k_iff, k_whl, k_for, k_brk, k_cont, lo_nil, lo_cons, li_some, as_nm, as_tup, as_0, as_s, f_rt, f_own, f_nx, R.bind_ok, R.of_some, Option.bind_some, Option.map_some, List.length_cons, List.length_nil, List.set_cons_zero, List.set_cons_succ, List.map_cons, List.map_nil, List.replicate, List.cons_append, List.nil_append, if_true, if_false, Bool.false_eq_true, eq_str, e, e2]
end K03

set_option maxHeartbeats 4000000
namespace K03
open Mi
open PySem (Str PyData)
/-! ### points -/
abbrev Pt := (Int × Int) × (Int × Int)
abbrev pt (P : Pt) : D := .tup [fr P.1, fr P.2]
structure NmP (P : Pt) : Prop where
  a : Nm P.1
  b : Nm P.2
structure BP (k : Nat) (P : Pt) : Prop where
  a : Bp k P.1
  b : Bp k P.2
theorem BP.mono {k l : Nat} {P : Pt} (h : BP k P) (e : k ≤ l) : BP l P := ⟨h.a.mono e, h.b.mono e⟩
theorem Bp.lo {k : Nat} {u v : Int} (h : B k u) (g : B k v) : Bp k (lo u v) := ⟨(lo_B h g).1, (lo_B h g).2⟩
theorem ad_B2 {k l : Nat} {p q : Int × Int} (h : Bp k p) (h' : Bp l q) : Bp (k + l + 1) (ad p q) := Bp.lo ((h.a.mul h'.b).add ((h'.a.mul h.b).mono (by omega))) ((h.b.mul h'.b).mono (by omega))
theorem su_B2 {k l : Nat} {p q : Int × Int} (h : Bp k p) (h' : Bp l q) : Bp (k + l + 1) (su p q) := Bp.lo ((h.a.mul h'.b).sub ((h'.a.mul h.b).mono (by omega))) ((h.b.mul h'.b).mono (by omega))
theorem ti_B2 {k l : Nat} {p q : Int × Int} (h : Bp k p) (h' : Bp l q) : Bp (k + l) (ti p q) := Bp.lo (h.a.mul h'.a) (h.b.mul h'.b)
theorem ad_nm {p q : Int × Int} (h : Nm p) (h' : Nm q) : Nm (ad p q) := lo_nm _ _ (Int.mul_ne_zero h.ne h'.ne)
theorem su_nm {p q : Int × Int} (h : Nm p) (h' : Nm q) : Nm (su p q) := lo_nm _ _ (Int.mul_ne_zero h.ne h'.ne)
theorem ti_nm {p q : Int × Int} (h : Nm p) (h' : Nm q) : Nm (ti p q) := lo_nm _ _ (Int.mul_ne_zero h.ne h'.ne)
theorem isp_run (n : Nat) (P : Pt) (S : Store) (h : NmP P) (hB : BP 8000 P) : C (n + 3) 9 [.d (pt P)] S = .ok (.d (.bl true)) S := by
  have e1 := isf_run n P.1 S h.a hB.a.b
  have e2 := isf_run n P.2 S h.b hB.b.b
  rw [call_at (fd := ⟨1, 1, b9⟩) rfl, r_run _ _ _ _ _ _ rfl]
  simp [b9, e_kN, e_kB, e_kI, e_kS, e_var, e_glb, e_fnv, e_typ, e_neg, e_bin, e_cmp, e_chn, e_and, e_or, e_not, e_ife, e_tup, e_lst, e_ix, e_slc, e_call, e_bi, e_mt, e_lc, e_dc, t_and, t_or, t_not, t_var, t_cmp, t_chn, t_call, t_bi, t_ix, i_var, i_call, i_bi, i_rng, i_zip, ss_nil, ss_cons, so_none, so_some, ea_nil, ea_cons, an_1, an_2, or_1, or_2, tan_1, tan_2, tor_1, tor_2, tal_0, tal_1, ep_0, ep_1, st_, st2_, tu_nil, tu_c, w_0, w_s, ca_ok, at1, at2_0, at2_1, at4_0, at4_1, at4_2, at4_3, bo_nil, bo_c, io_nil, io_c, is_int, is_intb, is_tup, g_0, g_s, p_d, p_own, p_ref, d_d, d_own, a_d, a_own, a_ref, c_lst, c_dct, pk_nil, pk_cons, sa_nil, sa_cons, ao_nil, ao_cons, b_add, b_sub, b_mul, b_div, b_mod, b_pow, b_cat, n_int, n_bl, cv, c_eq, c_ne, c_lt, c_le, c_gt, c_ge, c_in, c_notIn, eq_int, x_lst, x_tup, x_dct, tr_bl, tr_int, bi_len, bi_lent, bi_abs, bi_int, bi_all, bi_list, bi_listk, bi_listt, bi_tuple, bi_tuplet, io_lst, io_klst, io_tup, k_nil, k_cons, k_asg, k_asgS, k_asgN, k_setix, k_ex, k_ret, k_retN, k_iff, k_whl, k_for, k_brk, k_cont, lo_nil, lo_cons, li_some, as_nm, as_tup, as_0, as_s, f_rt, f_own, f_nx, R.bind_ok, R.of_some, Option.bind_some, Option.map_some, List.length_cons, List.length_nil, List.set_cons_zero, List.set_cons_succ, List.map_cons, List.map_nil, List.replicate, List.cons_append, List.nil_append, if_true, if_false, Bool.false_eq_true, eq_int, e1, e2]
def gp (p q : Int × Int) : Int × Int := (q.1 * p.2 - p.1 * q.2, q.2 * p.2)
theorem gap_run (n : Nat) (p q : Int × Int) (S : Store) {k : Nat} (hk : k ≤ 3000) (h : Bp k p) (h' : Bp k q) : C (n + 1) 10 [.d (fr p), .d (fr q)] S = .ok (.d (fr (gp p q))) S := by
  have m1 := cmul_ok h'.a h.b (by omega)
  have m2 := cmul_ok h.a h'.b (by omega)
  have m3 := cmul_ok h'.b h.b (by omega)
  have y2 : 2 ≤ PySem.sizeLine := by decide
  rw [call_at (fd := ⟨2, 2, b10⟩) rfl, r_run _ _ _ _ _ _ rfl]
  simp [b10, e_kN, e_kB, e_kI, e_kS, e_var, e_glb, e_fnv, e_typ, e_neg, e_bin, e_cmp, e_chn, e_and, e_or, e_not, e_ife, e_tup, e_lst, e_ix, e_slc, e_call, e_bi, e_mt, e_lc, e_dc, t_and, t_or, t_not, t_var, t_cmp, t_chn, t_call, t_bi, t_ix, i_var, i_call, i_bi, i_rng, i_zip, ss_nil, ss_cons, so_none, so_some, ea_nil, ea_cons, an_1, an_2, or_1, or_2, tan_1, tan_2, tor_1, tor_2, tal_0, tal_1, ep_0, ep_1, st_, st2_, tu_nil, tu_c, w_0, w_s, ca_ok, at1, at2_0, at2_1, at4_0, at4_1, at4_2, at4_3, bo_nil, bo_c, io_nil, io_c, is_int, is_intb, is_tup, g_0, g_s, p_d, p_own, p_ref, d_d, d_own, a_d, a_own, a_ref, c_lst, c_dct, pk_nil, pk_cons, sa_nil, sa_cons, ao_nil, ao_cons, b_add, b_sub, b_mul, b_div, b_mod, b_pow, b_cat, n_int, n_bl, cv, c_eq, c_ne, c_lt, c_le, c_gt, c_ge, c_in, c_notIn, eq_int, x_lst, x_tup, x_dct, tr_bl, tr_int, bi_len, bi_lent, bi_abs, bi_int, bi_all, bi_list, bi_listk, bi_listt, bi_tuple, bi_tuplet, io_lst, io_klst, io_tup, k_nil, k_cons, k_asg, k_asgS, k_asgN, k_setix, k_ex, k_ret, k_retN, k_iff, k_whl, k_for, k_brk, k_cont, lo_nil, lo_cons, li_some, as_nm, as_tup, as_0, as_s, f_rt, f_own, f_nx, R.bind_ok, R.of_some, Option.bind_some, Option.map_some, List.length_cons, List.length_nil, List.set_cons_zero, List.set_cons_succ, List.map_cons, List.map_nil, List.replicate, List.cons_append, List.nil_append, if_true, if_false, Bool.false_eq_true, m1, m2, m3, gp, y2]
theorem gp_B {k : Nat} {p q : Int × Int} (h : Bp k p) (h' : Bp k q) : Bp (k + k + 1) (gp p q) := ⟨(h'.a.mul h.b).sub (h.a.mul h'.b), (h'.b.mul h.b).mono (by omega)⟩
/-- twice the area, over what it is -/
def tw1 (a b c : Pt) : Int := (gp a.1 b.1).1 * (gp a.2 c.2).1 * (gp a.2 b.2).2 * (gp a.1 c.1).2
def tw2 (a b c : Pt) : Int := (gp a.2 b.2).1 * (gp a.1 c.1).1 * (gp a.1 b.1).2 * (gp a.2 c.2).2
def tn (a b c : Pt) : Int := if tw1 a b c = tw2 a b c then 0 else if tw2 a b c < tw1 a b c then 1 else -1
theorem turnin_run (n : Nat) (a b c : Pt) (S : Store) {k : Nat} (hk : k ≤ 3000) (ha : BP k a) (hb : BP k b) (hc : BP k c) : C (n + 2) 11 [.d (pt a), .d (pt b), .d (pt c)] S = .ok (I (tn a b c)) S := by
  have g1 := gap_run n a.1 b.1 S hk ha.a hb.a
  have g2 := gap_run n a.2 b.2 S hk ha.b hb.b
  have g3 := gap_run n a.1 c.1 S hk ha.a hc.a
  have g4 := gap_run n a.2 c.2 S hk ha.b hc.b
  have B1 := gp_B ha.a hb.a
  have B2 := gp_B ha.b hb.b
  have B3 := gp_B ha.a hc.a
  have B4 := gp_B ha.b hc.b
  have m1 := cmul_ok B1.a B4.a (by omega)
  have m2 := cmul_ok (B1.a.mul B4.a) B2.b (by omega)
  have m3 := cmul_ok ((B1.a.mul B4.a).mul B2.b) B3.b (by omega)
  have m4 := cmul_ok B2.a B3.a (by omega)
  have m5 := cmul_ok (B2.a.mul B3.a) B1.b (by omega)
  have m6 := cmul_ok ((B2.a.mul B3.a).mul B1.b) B4.b (by omega)
  have y2 : 2 ≤ PySem.sizeLine := by decide
  rw [call_at (fd := ⟨3, 9, b11⟩) rfl, r_run _ _ _ _ _ _ rfl]
  by_cases z : tw1 a b c = tw2 a b c
  · have e : (tw1 a b c == tw2 a b c) = true := by simpa using z
    unfold tw1 tw2 at e
    have t : tn a b c = 0 := if_pos z
    simp [b11, e_kN, e_kB, e_kI, e_kS, e_var, e_glb, e_fnv, e_typ, e_neg, e_bin, e_cmp, e_chn, e_and, e_or, e_not, e_ife, e_tup, e_lst, e_ix, e_slc, e_call, e_bi, e_mt, e_lc, e_dc, t_and, t_or, t_not, t_var, t_cmp, t_chn, t_call, t_bi, t_ix, i_var, i_call, i_bi, i_rng, i_zip, ss_nil, ss_cons, so_none, so_some, ea_nil, ea_cons, an_1, an_2, or_1, or_2, tan_1, tan_2, tor_1, tor_2, tal_0, tal_1, ep_0, ep_1, st_, st2_, tu_nil, tu_c, w_0, w_s, ca_ok, at1, at2_0, at2_1, at4_0, at4_1, at4_2, at4_3, bo_nil, bo_c, io_nil, io_c, is_int, is_intb, is_tup, g_0, g_s, p_d, p_own, p_ref, d_d, d_own, a_d, a_own, a_ref, c_lst, c_dct, pk_nil, pk_cons, sa_nil, sa_cons, ao_nil, ao_cons, b_add, b_sub, b_mul, b_div, b_mod, b_pow, b_cat, n_int, n_bl, cv, c_eq, c_ne, c_lt, c_le, c_gt, c_ge, c_in, c_notIn, eq_int, x_lst, x_tup, x_dct, tr_bl, tr_int, bi_len, bi_lent, bi_abs, bi_int, bi_all, bi_list, bi_listk, bi_listt, bi_tuple, bi_tuplet, io_lst, io_klst, io_tup, k_nil, k_cons, k_asg, k_asgS, k_asgN, k_setix, k_ex, k_ret, k_retN, k_iff, k_whl, k_for, k_brk, k_cont, lo_nil, lo_cons, li_some, as_nm, as_tup, as_0, as_s, f_rt, f_own, f_nx, R.bind_ok, R.of_some, Option.bind_some, Option.map_some, List.length_cons, List.length_nil, List.set_cons_zero, List.set_cons_succ, List.map_cons, List.map_nil, List.replicate, List.cons_append, List.nil_append, if_true, if_false, Bool.false_eq_true, eq_int, g1, g2, g3, g4, m1, m2, m3, m4, m5, m6, y2, e, t]
  · have e : (tw1 a b c == tw2 a b c) = false := by simpa using z
    by_cases z2 : tw2 a b c < tw1 a b c
    · have t : tn a b c = 1 := by unfold tn; rw [if_neg z, if_pos z2]
      unfold tw1 tw2 at e z2
      simp [b11, e_kN, e_kB, e_kI, e_kS, e_var, e_glb, e_fnv, e_typ, e_neg, e_bin, e_cmp, e_chn, e_and, e_or, e_not, e_ife, e_tup, e_lst, e_ix, e_slc, e_call, e_bi, e_mt, e_lc, e_dc, t_and, t_or, t_not, t_var, t_cmp, t_chn, t_call, t_bi, t_ix, i_var, i_call, i_bi, i_rng, i_zip, ss_nil, ss_cons, so_none, so_some, ea_nil, ea_cons, an_1, an_2, or_1, or_2, tan_1, tan_2, tor_1, tor_2, tal_0, tal_1, ep_0, ep_1, st_, st2_, tu_nil, tu_c, w_0, w_s, ca_ok, at1, at2_0, at2_1, at4_0, at4_1, at4_2, at4_3, bo_nil, bo_c, io_nil, io_c, is_int, is_intb, is_tup, g_0, g_s, p_d, p_own, p_ref, d_d, d_own, a_d, a_own, a_ref, c_lst, c_dct, pk_nil, pk_cons, sa_nil, sa_cons, ao_nil, ao_cons, b_add, b_sub, b_mul, b_div, b_mod, b_pow, b_cat, n_int, n_bl, cv, c_eq, c_ne, c_lt, c_le, c_gt, c_ge, c_in, c_notIn, eq_int, x_lst, x_tup, x_dct, tr_bl, tr_int, bi_len, bi_lent, bi_abs, bi_int, bi_all, bi_list, bi_listk, bi_listt, bi_tuple, bi_tuplet, io_lst, io_klst, io_tup, k_nil, k_cons, k_asg, k_asgS, k_asgN, k_setix, k_ex, k_ret, k_retN, k_iff, k_whl, k_for, k_brk, k_cont, lo_nil, lo_cons, li_some, as_nm, as_tup, as_0, as_s, f_rt, f_own, f_nx, R.bind_ok, R.of_some, Option.bind_some, Option.map_some, List.length_cons, List.length_nil, List.set_cons_zero, List.set_cons_succ, List.map_cons, List.map_nil, List.replicate, List.cons_append, List.nil_append, if_true, if_false, Bool.false_eq_true, eq_int, g1, g2, g3, g4, m1, m2, m3, m4, m5, m6, y2, e, z2, t]
    · have t : tn a b c = -1 := by unfold tn; rw [if_neg z, if_neg z2]
      unfold tw1 tw2 at e z2
      simp [b11, e_kN, e_kB, e_kI, e_kS, e_var, e_glb, e_fnv, e_typ, e_neg, e_bin, e_cmp, e_chn, e_and, e_or, e_not, e_ife, e_tup, e_lst, e_ix, e_slc, e_call, e_bi, e_mt, e_lc, e_dc, t_and, t_or, t_not, t_var, t_cmp, t_chn, t_call, t_bi, t_ix, i_var, i_call, i_bi, i_rng, i_zip, ss_nil, ss_cons, so_none, so_some, ea_nil, ea_cons, an_1, an_2, or_1, or_2, tan_1, tan_2, tor_1, tor_2, tal_0, tal_1, ep_0, ep_1, st_, st2_, tu_nil, tu_c, w_0, w_s, ca_ok, at1, at2_0, at2_1, at4_0, at4_1, at4_2, at4_3, bo_nil, bo_c, io_nil, io_c, is_int, is_intb, is_tup, g_0, g_s, p_d, p_own, p_ref, d_d, d_own, a_d, a_own, a_ref, c_lst, c_dct, pk_nil, pk_cons, sa_nil, sa_cons, ao_nil, ao_cons, b_add, b_sub, b_mul, b_div, b_mod, b_pow, b_cat, n_int, n_bl, cv, c_eq, c_ne, c_lt, c_le, c_gt, c_ge, c_in, c_notIn, eq_int, x_lst, x_tup, x_dct, tr_bl, tr_int, bi_len, bi_lent, bi_abs, bi_int, bi_all, bi_list, bi_listk, bi_listt, bi_tuple, bi_tuplet, io_lst, io_klst, io_tup, k_nil, k_cons, k_asg, k_asgS, k_asgN, k_setix, k_ex, k_ret, k_retN, k_iff, k_whl, k_for, k_brk, k_cont, lo_nil, lo_cons, li_some, as_nm, as_tup, as_0, as_s, f_rt, f_own, f_nx, R.bind_ok, R.of_some, Option.bind_some, Option.map_some, List.length_cons, List.length_nil, List.set_cons_zero, List.set_cons_succ, List.map_cons, List.map_nil, List.replicate, List.cons_append, List.nil_append, if_true, if_false, Bool.false_eq_true, eq_int, g1, g2, g3, g4, m1, m2, m3, m4, m5, m6, y2, e, z2, t]
theorem py_fr (p : Int × Int) : (fr p).py = some (.tuple [.int p.1, .int p.2]) := rfl
theorem eq_fr (p q : Int × Int) : eqD (fr p) (fr q) = some (decide (p = q)) := by
  have e : PyData.eqv (.tuple [.int p.1, .int p.2]) (.tuple [.int q.1, .int q.2]) = decide (p = q) := by
    show ((p.1 == q.1) && ((p.2 == q.2) && true)) = _
    rw [Bool.eq_iff_iff]
    simp only [Bool.and_eq_true, beq_iff_eq, decide_eq_true_eq, and_true]
    exact ⟨fun h => Prod.ext h.1 h.2, fun h => by subst h; exact ⟨rfl, rfl⟩⟩
  have s : ∀ p : Int × Int, PySem.SeqAt.shaped (.tuple [.int p.1, .int p.2]) = true := fun _ => rfl
  show ((fr p).py.bind fun a => (fr q).py.bind fun b => if PySem.SeqAt.shaped a && PySem.SeqAt.shaped b then some (PyData.eqv a b) else none) = _
  rw [py_fr, py_fr]
  simp only [Option.bind_some, s, Bool.and_self, if_true, e]
theorem eq_pt (P Q : Pt) : eqD (pt P) (pt Q) = some (decide (P = Q)) := by
  have e : PyData.eqv (.tuple [.tuple [.int P.1.1, .int P.1.2], .tuple [.int P.2.1, .int P.2.2]]) (.tuple [.tuple [.int Q.1.1, .int Q.1.2], .tuple [.int Q.2.1, .int Q.2.2]]) = decide (P = Q) := by
    show (((P.1.1 == Q.1.1) && ((P.1.2 == Q.1.2) && true)) && (((P.2.1 == Q.2.1) && ((P.2.2 == Q.2.2) && true)) && true)) = _
    rw [Bool.eq_iff_iff]
    simp only [Bool.and_eq_true, beq_iff_eq, decide_eq_true_eq, and_true]
    exact ⟨fun h => Prod.ext (Prod.ext h.1.1 h.1.2) (Prod.ext h.2.1 h.2.2), fun h => by subst h; exact ⟨⟨rfl, rfl⟩, rfl, rfl⟩⟩
  have s : ∀ P : Pt, PySem.SeqAt.shaped (.tuple [.tuple [.int P.1.1, .int P.1.2], .tuple [.int P.2.1, .int P.2.2]]) = true := fun _ => rfl
  have p : ∀ P : Pt, (pt P).py = some (.tuple [.tuple [.int P.1.1, .int P.1.2], .tuple [.int P.2.1, .int P.2.2]]) := fun _ => rfl
  show ((pt P).py.bind fun a => (pt Q).py.bind fun b => if PySem.SeqAt.shaped a && PySem.SeqAt.shaped b then some (PyData.eqv a b) else none) = _
  rw [p, p]
  simp only [Option.bind_some, s, Bool.and_self, if_true, e]
def ls (p q : Int × Int) : Bool := decide (p.1 * q.2 < q.1 * p.2)
def ah (P Q : Pt) : Bool := if P.1 = Q.1 then ls P.2 Q.2 else ls P.1 Q.1
theorem ahead_run (n : Nat) (P Q : Pt) (S : Store) {k : Nat} (hk : k ≤ 3000) (h : BP k P) (h' : BP k Q) : C (n + 2) 12 [.d (pt P), .d (pt Q)] S = .ok (.d (.bl (ah P Q))) S := by
  have b1 := before_in n P.1 Q.1 S hk h.a h'.a
  have b2 := before_in n P.2 Q.2 S hk h.b h'.b
  rw [call_at (fd := ⟨2, 2, b12⟩) rfl, r_run _ _ _ _ _ _ rfl]
  by_cases z : P.1 = Q.1
  · have a : ah P Q = ls P.2 Q.2 := if_pos z
    rw [a]
    simp [b12, e_kN, e_kB, e_kI, e_kS, e_var, e_glb, e_fnv, e_typ, e_neg, e_bin, e_cmp, e_chn, e_and, e_or, e_not, e_ife, e_tup, e_lst, e_ix, e_slc, e_call, e_bi, e_mt, e_lc, e_dc, t_and, t_or, t_not, t_var, t_cmp, t_chn, t_call, t_bi, t_ix, i_var, i_call, i_bi, i_rng, i_zip, ss_nil, ss_cons, so_none, so_some, ea_nil, ea_cons, an_1, an_2, or_1, or_2, tan_1, tan_2, tor_1, tor_2, tal_0, tal_1, ep_0, ep_1, st_, st2_, tu_nil, tu_c, w_0, w_s, ca_ok, at1, at2_0, at2_1, at4_0, at4_1, at4_2, at4_3, bo_nil, bo_c, io_nil, io_c, is_int, is_intb, is_tup, g_0, g_s, p_d, p_own, p_ref, d_d, d_own, a_d, a_own, a_ref, c_lst, c_dct, pk_nil, pk_cons, sa_nil, sa_cons, ao_nil, ao_cons, b_add, b_sub, b_mul, b_div, b_mod, b_pow, b_cat, n_int, n_bl, cv, c_eq, c_ne, c_lt, c_le, c_gt, c_ge, c_in, c_notIn, eq_int, x_lst, x_tup, x_dct, tr_bl, tr_int, bi_len, bi_lent, bi_abs, bi_int, bi_all, bi_list, bi_listk, bi_listt, bi_tuple, bi_tuplet, io_lst, io_klst, io_tup, k_nil, k_cons, k_asg, k_asgS, k_asgN, k_setix, k_ex, k_ret, k_retN, k_iff, k_whl, k_for, k_brk, k_cont, lo_nil, lo_cons, li_some, as_nm, as_tup, as_0, as_s, f_rt, f_own, f_nx, R.bind_ok, R.of_some, Option.bind_some, Option.map_some, List.length_cons, List.length_nil, List.set_cons_zero, List.set_cons_succ, List.map_cons, List.map_nil, List.replicate, List.cons_append, List.nil_append, if_true, if_false, Bool.false_eq_true, eq_fr, z, b2, ls]
  · have a : ah P Q = ls P.1 Q.1 := if_neg z
    rw [a]
    simp [b12, e_kN, e_kB, e_kI, e_kS, e_var, e_glb, e_fnv, e_typ, e_neg, e_bin, e_cmp, e_chn, e_and, e_or, e_not, e_ife, e_tup, e_lst, e_ix, e_slc, e_call, e_bi, e_mt, e_lc, e_dc, t_and, t_or, t_not, t_var, t_cmp, t_chn, t_call, t_bi, t_ix, i_var, i_call, i_bi, i_rng, i_zip, ss_nil, ss_cons, so_none, so_some, ea_nil, ea_cons, an_1, an_2, or_1, or_2, tan_1, tan_2, tor_1, tor_2, tal_0, tal_1, ep_0, ep_1, st_, st2_, tu_nil, tu_c, w_0, w_s, ca_ok, at1, at2_0, at2_1, at4_0, at4_1, at4_2, at4_3, bo_nil, bo_c, io_nil, io_c, is_int, is_intb, is_tup, g_0, g_s, p_d, p_own, p_ref, d_d, d_own, a_d, a_own, a_ref, c_lst, c_dct, pk_nil, pk_cons, sa_nil, sa_cons, ao_nil, ao_cons, b_add, b_sub, b_mul, b_div, b_mod, b_pow, b_cat, n_int, n_bl, cv, c_eq, c_ne, c_lt, c_le, c_gt, c_ge, c_in, c_notIn, eq_int, x_lst, x_tup, x_dct, tr_bl, tr_int, bi_len, bi_lent, bi_abs, bi_int, bi_all, bi_list, bi_listk, bi_listt, bi_tuple, bi_tuplet, io_lst, io_klst, io_tup, k_nil, k_cons, k_asg, k_asgS, k_asgN, k_setix, k_ex, k_ret, k_retN, k_iff, k_whl, k_for, k_brk, k_cont, lo_nil, lo_cons, li_some, as_nm, as_tup, as_0, as_s, f_rt, f_own, f_nx, R.bind_ok, R.of_some, Option.bind_some, Option.map_some, List.length_cons, List.length_nil, List.set_cons_zero, List.set_cons_succ, List.map_cons, List.map_nil, List.replicate, List.cons_append, List.nil_append, if_true, if_false, Bool.false_eq_true, eq_fr, z, b1, ls]
def ri (P Q : Pt) : Pt × Pt := if ah Q P then (Q, P) else (P, Q)
theorem rising_run (n : Nat) (P Q : Pt) (S : Store) {k : Nat} (hk : k ≤ 3000) (h : BP k P) (h' : BP k Q) : C (n + 3) 13 [.d (pt P), .d (pt Q)] S = .ok (.d (.tup [pt (ri P Q).1, pt (ri P Q).2])) S := by
  have a := ahead_run n Q P S hk h' h
  have y2 : 2 ≤ PySem.sizeLine := by decide
  rw [call_at (fd := ⟨2, 2, b13⟩) rfl, r_run _ _ _ _ _ _ rfl]
  by_cases z : ah Q P = true
  · have e : ri P Q = (Q, P) := if_pos z
    rw [e]
    simp [b13, e_kN, e_kB, e_kI, e_kS, e_var, e_glb, e_fnv, e_typ, e_neg, e_bin, e_cmp, e_chn, e_and, e_or, e_not, e_ife, e_tup, e_lst, e_ix, e_slc, e_call, e_bi, e_mt, e_lc, e_dc, t_and, t_or, t_not, t_var, t_cmp, t_chn, t_call, t_bi, t_ix, i_var, i_call, i_bi, i_rng, i_zip, ss_nil, ss_cons, so_none, so_some, ea_nil, ea_cons, an_1, an_2, or_1, or_2, tan_1, tan_2, tor_1, tor_2, tal_0, tal_1, ep_0, ep_1, st_, st2_, tu_nil, tu_c, w_0, w_s, ca_ok, at1, at2_0, at2_1, at4_0, at4_1, at4_2, at4_3, bo_nil, bo_c, io_nil, io_c, is_int, is_intb, is_tup, g_0, g_s, p_d, p_own, p_ref, d_d, d_own, a_d, a_own, a_ref, c_lst, c_dct, pk_nil, pk_cons, sa_nil, sa_cons, ao_nil, ao_cons, b_add, b_sub, b_mul, b_div, b_mod, b_pow, b_cat, n_int, n_bl, cv, c_eq, c_ne, c_lt, c_le, c_gt, c_ge, c_in, c_notIn, eq_int, x_lst, x_tup, x_dct, tr_bl, tr_int, bi_len, bi_lent, bi_abs, bi_int, bi_all, bi_list, bi_listk, bi_listt, bi_tuple, bi_tuplet, io_lst, io_klst, io_tup, k_nil, k_cons, k_asg, k_asgS, k_asgN, k_setix, k_ex, k_ret, k_retN, k_iff, k_whl, k_for, k_brk, k_cont, lo_nil, lo_cons, li_some, as_nm, as_tup, as_0, as_s, f_rt, f_own, f_nx, R.bind_ok, R.of_some, Option.bind_some, Option.map_some, List.length_cons, List.length_nil, List.set_cons_zero, List.set_cons_succ, List.map_cons, List.map_nil, List.replicate, List.cons_append, List.nil_append, if_true, if_false, Bool.false_eq_true, a, z, y2]
  · have e : ri P Q = (P, Q) := if_neg z
    have z' : ah Q P = false := by simpa using z
    rw [e]
    simp [b13, e_kN, e_kB, e_kI, e_kS, e_var, e_glb, e_fnv, e_typ, e_neg, e_bin, e_cmp, e_chn, e_and, e_or, e_not, e_ife, e_tup, e_lst, e_ix, e_slc, e_call, e_bi, e_mt, e_lc, e_dc, t_and, t_or, t_not, t_var, t_cmp, t_chn, t_call, t_bi, t_ix, i_var, i_call, i_bi, i_rng, i_zip, ss_nil, ss_cons, so_none, so_some, ea_nil, ea_cons, an_1, an_2, or_1, or_2, tan_1, tan_2, tor_1, tor_2, tal_0, tal_1, ep_0, ep_1, st_, st2_, tu_nil, tu_c, w_0, w_s, ca_ok, at1, at2_0, at2_1, at4_0, at4_1, at4_2, at4_3, bo_nil, bo_c, io_nil, io_c, is_int, is_intb, is_tup, g_0, g_s, p_d, p_own, p_ref, d_d, d_own, a_d, a_own, a_ref, c_lst, c_dct, pk_nil, pk_cons, sa_nil, sa_cons, ao_nil, ao_cons, b_add, b_sub, b_mul, b_div, b_mod, b_pow, b_cat, n_int, n_bl, cv, c_eq, c_ne, c_lt, c_le, c_gt, c_ge, c_in, c_notIn, eq_int, x_lst, x_tup, x_dct, tr_bl, tr_int, bi_len, bi_lent, bi_abs, bi_int, bi_all, bi_list, bi_listk, bi_listt, bi_tuple, bi_tuplet, io_lst, io_klst, io_tup, k_nil, k_cons, k_asg, k_asgS, k_asgN, k_setix, k_ex, k_ret, k_retN, k_iff, k_whl, k_for, k_brk, k_cont, lo_nil, lo_cons, li_some, as_nm, as_tup, as_0, as_s, f_rt, f_own, f_nx, R.bind_ok, R.of_some, Option.bind_some, Option.map_some, List.length_cons, List.length_nil, List.set_cons_zero, List.set_cons_succ, List.map_cons, List.map_nil, List.replicate, List.cons_append, List.nil_append, if_true, if_false, Bool.false_eq_true, a, z', y2]
theorem ri_B {k : Nat} {P Q : Pt} (h : BP k P) (h' : BP k Q) : BP k (ri P Q).1 ∧ BP k (ri P Q).2 := by
  unfold ri
  split
  · exact ⟨h', h⟩
  · exact ⟨h, h'⟩
def on_ (a b p : Pt) : Bool := if a = b then decide (p = a) else if tn a b p = 0 then !ah p (ri a b).1 && !ah (ri a b).2 p else false
theorem onin_run (n : Nat) (a b p : Pt) (S : Store) {k : Nat} (hk : k ≤ 3000) (ha : BP k a) (hb : BP k b) (hp : BP k p) : C (n + 4) 14 [.d (pt a), .d (pt b), .d (pt p)] S = .ok (.d (.bl (on_ a b p))) S := by
  have t := turnin_run (n + 1) a b p S hk ha hb hp
  have r := rising_run n a b S hk ha hb
  obtain ⟨r1, r2⟩ := ri_B ha hb
  have a1 := ahead_run (n + 1) p (ri a b).1 S hk hp r1
  have a2 := ahead_run (n + 1) (ri a b).2 p S hk r2 hp
  rw [call_at (fd := ⟨3, 5, b14⟩) rfl, r_run _ _ _ _ _ _ rfl]
  by_cases z : a = b
  · have e : on_ a b p = decide (p = a) := if_pos z
    rw [e]
    simp [b14, e_kN, e_kB, e_kI, e_kS, e_var, e_glb, e_fnv, e_typ, e_neg, e_bin, e_cmp, e_chn, e_and, e_or, e_not, e_ife, e_tup, e_lst, e_ix, e_slc, e_call, e_bi, e_mt, e_lc, e_dc, t_and, t_or, t_not, t_var, t_cmp, t_chn, t_call, t_bi, t_ix, i_var, i_call, i_bi, i_rng, i_zip, ss_nil, ss_cons, so_none, so_some, ea_nil, ea_cons, an_1, an_2, or_1, or_2, tan_1, tan_2, tor_1, tor_2, tal_0, tal_1, ep_0, ep_1, st_, st2_, tu_nil, tu_c, w_0, w_s, ca_ok, at1, at2_0, at2_1, at4_0, at4_1, at4_2, at4_3, bo_nil, bo_c, io_nil, io_c, is_int, is_intb, is_tup, g_0, g_s, p_d, p_own, p_ref, d_d, d_own, a_d, a_own, a_ref, c_lst, c_dct, pk_nil, pk_cons, sa_nil, sa_cons, ao_nil, ao_cons, b_add, b_sub, b_mul, b_div, b_mod, b_pow, b_cat, n_int, n_bl, cv, c_eq, c_ne, c_lt, c_le, c_gt, c_ge, c_in, c_notIn, eq_int, x_lst, x_tup, x_dct, tr_bl, tr_int, bi_len, bi_lent, bi_abs, bi_int, bi_all, bi_list, bi_listk, bi_listt, bi_tuple, bi_tuplet, io_lst, io_klst, io_tup, k_nil, k_cons, k_asg, k_asgS, k_asgN, k_setix, k_ex, k_ret, k_retN, k_iff, k_whl, k_for, k_brk, k_cont, lo_nil, lo_cons, li_some, as_nm, as_tup, as_0, as_s, f_rt, f_own, f_nx, R.bind_ok, R.of_some, Option.bind_some, Option.map_some, List.length_cons, List.length_nil, List.set_cons_zero, List.set_cons_succ, List.map_cons, List.map_nil, List.replicate, List.cons_append, List.nil_append, if_true, if_false, Bool.false_eq_true, eq_pt, z]
  · by_cases z2 : tn a b p = 0
    · have e : on_ a b p = (!ah p (ri a b).1 && !ah (ri a b).2 p) := by unfold on_; rw [if_neg z, if_pos z2]
      have e0 : (tn a b p == 0) = true := by simpa using z2
      rw [e]
      cases h1 : ah p (ri a b).1
      · rw [h1] at a1
        simp [b14, e_kN, e_kB, e_kI, e_kS, e_var, e_glb, e_fnv, e_typ, e_neg, e_bin, e_cmp, e_chn, e_and, e_or, e_not, e_ife, e_tup, e_lst, e_ix, e_slc, e_call, e_bi, e_mt, e_lc, e_dc, t_and, t_or, t_not, t_var, t_cmp, t_chn, t_call, t_bi, t_ix, i_var, i_call, i_bi, i_rng, i_zip, ss_nil, ss_cons, so_none, so_some, ea_nil, ea_cons, an_1, an_2, or_1, or_2, tan_1, tan_2, tor_1, tor_2, tal_0, tal_1, ep_0, ep_1, st_, st2_, tu_nil, tu_c, w_0, w_s, ca_ok, at1, at2_0, at2_1, at4_0, at4_1, at4_2, at4_3, bo_nil, bo_c, io_nil, io_c, is_int, is_intb, is_tup, g_0, g_s, p_d, p_own, p_ref, d_d, d_own, a_d, a_own, a_ref, c_lst, c_dct, pk_nil, pk_cons, sa_nil, sa_cons, ao_nil, ao_cons, b_add, b_sub, b_mul, b_div, b_mod, b_pow, b_cat, n_int, n_bl, cv, c_eq, c_ne, c_lt, c_le, c_gt, c_ge, c_in, c_notIn, eq_int, x_lst, x_tup, x_dct, tr_bl, tr_int, bi_len, bi_lent, bi_abs, bi_int, bi_all, bi_list, bi_listk, bi_listt, bi_tuple, bi_tuplet, io_lst, io_klst, io_tup, k_nil, k_cons, k_asg, k_asgS, k_asgN, k_setix, k_ex, k_ret, k_retN, k_iff, k_whl, k_for, k_brk, k_cont, lo_nil, lo_cons, li_some, as_nm, as_tup, as_0, as_s, f_rt, f_own, f_nx, R.bind_ok, R.of_some, Option.bind_some, Option.map_some, List.length_cons, List.length_nil, List.set_cons_zero, List.set_cons_succ, List.map_cons, List.map_nil, List.replicate, List.cons_append, List.nil_append, if_true, if_false, Bool.false_eq_true, eq_pt, eq_int, z, t, e0, r, a1, a2]
      · rw [h1] at a1
        simp [b14, e_kN, e_kB, e_kI, e_kS, e_var, e_glb, e_fnv, e_typ, e_neg, e_bin, e_cmp, e_chn, e_and, e_or, e_not, e_ife, e_tup, e_lst, e_ix, e_slc, e_call, e_bi, e_mt, e_lc, e_dc, t_and, t_or, t_not, t_var, t_cmp, t_chn, t_call, t_bi, t_ix, i_var, i_call, i_bi, i_rng, i_zip, ss_nil, ss_cons, so_none, so_some, ea_nil, ea_cons, an_1, an_2, or_1, or_2, tan_1, tan_2, tor_1, tor_2, tal_0, tal_1, ep_0, ep_1, st_, st2_, tu_nil, tu_c, w_0, w_s, ca_ok, at1, at2_0, at2_1, at4_0, at4_1, at4_2, at4_3, bo_nil, bo_c, io_nil, io_c, is_int, is_intb, is_tup, g_0, g_s, p_d, p_own, p_ref, d_d, d_own, a_d, a_own, a_ref, c_lst, c_dct, pk_nil, pk_cons, sa_nil, sa_cons, ao_nil, ao_cons, b_add, b_sub, b_mul, b_div, b_mod, b_pow, b_cat, n_int, n_bl, cv, c_eq, c_ne, c_lt, c_le, c_gt, c_ge, c_in, c_notIn, eq_int, x_lst, x_tup, x_dct, tr_bl, tr_int, bi_len, bi_lent, bi_abs, bi_int, bi_all, bi_list, bi_listk, bi_listt, bi_tuple, bi_tuplet, io_lst, io_klst, io_tup, k_nil, k_cons, k_asg, k_asgS, k_asgN, k_setix, k_ex, k_ret, k_retN, k_iff, k_whl, k_for, k_brk, k_cont, lo_nil, lo_cons, li_some, as_nm, as_tup, as_0, as_s, f_rt, f_own, f_nx, R.bind_ok, R.of_some, Option.bind_some, Option.map_some, List.length_cons, List.length_nil, List.set_cons_zero, List.set_cons_succ, List.map_cons, List.map_nil, List.replicate, List.cons_append, List.nil_append, if_true, if_false, Bool.false_eq_true, eq_pt, eq_int, z, t, e0, r, a1]
    · have e : on_ a b p = false := by unfold on_; rw [if_neg z, if_neg z2]
      have e0 : (tn a b p == 0) = false := by simpa using z2
      rw [e]
      simp [b14, e_kN, e_kB, e_kI, e_kS, e_var, e_glb, e_fnv, e_typ, e_neg, e_bin, e_cmp, e_chn, e_and, e_or, e_not, e_ife, e_tup, e_lst, e_ix, e_slc, e_call, e_bi, e_mt, e_lc, e_dc, t_and, t_or, t_not, t_var, t_cmp, t_chn, t_call, t_bi, t_ix, i_var, i_call, i_bi, i_rng, i_zip, ss_nil, ss_cons, so_none, so_some, ea_nil, ea_cons, an_1, an_2, or_1, or_2, tan_1, tan_2, tor_1, tor_2, tal_0, tal_1, ep_0, ep_1, st_, st2_, tu_nil, tu_c, w_0, w_s, ca_ok, at1, at2_0, at2_1, at4_0, at4_1, at4_2, at4_3, bo_nil, bo_c, io_nil, io_c, is_int, is_intb, is_tup, g_0, g_s, p_d, p_own, p_ref, d_d, d_own, a_d, a_own, a_ref, c_lst, c_dct, pk_nil, pk_cons, sa_nil, sa_cons, ao_nil, ao_cons, b_add, b_sub, b_mul, b_div, b_mod, b_pow, b_cat, n_int, n_bl, cv, c_eq, c_ne, c_lt, c_le, c_gt, c_ge, c_in, c_notIn, eq_int, x_lst, x_tup, x_dct, tr_bl, tr_int, bi_len, bi_lent, bi_abs, bi_int, bi_all, bi_list, bi_listk, bi_listt, bi_tuple, bi_tuplet, io_lst, io_klst, io_tup, k_nil, k_cons, k_asg, k_asgS, k_asgN, k_setix, k_ex, k_ret, k_retN, k_iff, k_whl, k_for, k_brk, k_cont, lo_nil, lo_cons, li_some, as_nm, as_tup, as_0, as_s, f_rt, f_own, f_nx, R.bind_ok, R.of_some, Option.bind_some, Option.map_some, List.length_cons, List.length_nil, List.set_cons_zero, List.set_cons_succ, List.map_cons, List.map_nil, List.replicate, List.cons_append, List.nil_append, if_true, if_false, Bool.false_eq_true, eq_pt, eq_int, z, t, e0]
def part (a b : Pt) (s : Int × Int) : Pt := (ad a.1 (ti s (su b.1 a.1)), ad a.2 (ti s (su b.2 a.2)))
theorem partin_run (n : Nat) (a b : Pt) (s : Int × Int) (S : Store) {k : Nat} (hk : k ≤ 700) (ha : BP k a) (hb : BP k b) (hs : Bp k s) (na : NmP a) (nb : NmP b) (ns : Nm s) : C (n + 4) 16 [.d (pt a), .d (pt b), .d (fr s)] S = .ok (.d (pt (part a b s))) S := by
  have step : ∀ x y : Int × Int, Bp k x → Bp k y → Nm x → Nm y → C (n + 3) 5 [.d (fr y), .d (fr x)] S = .ok (.d (fr (su y x))) S ∧ C (n + 3) 6 [.d (fr s), .d (fr (su y x))] S = .ok (.d (fr (ti s (su y x)))) S ∧ C (n + 3) 4 [.d (fr x), .d (fr (ti s (su y x)))] S = .ok (.d (fr (ad x (ti s (su y x))))) S := fun x y hx hy nx ny => by
    have b1 := su_B2 hy hx
    have b2 := ti_B2 hs b1
    exact ⟨minus_in n y x S (k := k) (by omega) hy hx ny nx, times_in n s (su y x) S (k := k + k + 1) (by omega) (hs.mono (by omega)) b1 ns (su_nm ny nx), plus_in n x (ti s (su y x)) S (k := k + (k + k + 1)) (by omega) (hx.mono (by omega)) b2 nx (ti_nm ns (su_nm ny nx))⟩
  obtain ⟨e1, e2, e3⟩ := step a.1 b.1 ha.a hb.a na.a nb.a
  obtain ⟨f1, f2, f3⟩ := step a.2 b.2 ha.b hb.b na.b nb.b
  have y2 : 2 ≤ PySem.sizeLine := by decide
  rw [call_at (fd := ⟨3, 3, b16⟩) rfl, r_run _ _ _ _ _ _ rfl]
  simp [b16, e_kN, e_kB, e_kI, e_kS, e_var, e_glb, e_fnv, e_typ, e_neg, e_bin, e_cmp, e_chn, e_and, e_or, e_not, e_ife, e_tup, e_lst, e_ix, e_slc, e_call, e_bi, e_mt, e_lc, e_dc, t_and, t_or, t_not, t_var, t_cmp, t_chn, t_call, t_bi, t_ix, i_var, i_call, i_bi, i_rng, i_zip, ss_nil, ss_cons, so_none, so_some, ea_nil, ea_cons, an_1, an_2, or_1, or_2, tan_1, tan_2, tor_1, tor_2, tal_0, tal_1, ep_0, ep_1, st_, st2_, tu_nil, tu_c, w_0, w_s, ca_ok, at1, at2_0, at2_1, at4_0, at4_1, at4_2, at4_3, bo_nil, bo_c, io_nil, io_c, is_int, is_intb, is_tup, g_0, g_s, p_d, p_own, p_ref, d_d, d_own, a_d, a_own, a_ref, c_lst, c_dct, pk_nil, pk_cons, sa_nil, sa_cons, ao_nil, ao_cons, b_add, b_sub, b_mul, b_div, b_mod, b_pow, b_cat, n_int, n_bl, cv, c_eq, c_ne, c_lt, c_le, c_gt, c_ge, c_in, c_notIn, eq_int, x_lst, x_tup, x_dct, tr_bl, tr_int, bi_len, bi_lent, bi_abs, bi_int, bi_all, bi_list, bi_listk, bi_listt, bi_tuple, bi_tuplet, io_lst, io_klst, io_tup, k_nil, k_cons, k_asg, k_asgS, k_asgN, k_setix, k_ex, k_ret, k_retN, k_iff, k_whl, k_for, k_brk, k_cont, lo_nil, lo_cons, li_some, as_nm, as_tup, as_0, as_s, f_rt, f_own, f_nx, R.bind_ok, R.of_some, Option.bind_some, Option.map_some, List.length_cons, List.length_nil, List.set_cons_zero, List.set_cons_succ, List.map_cons, List.map_nil, List.replicate, List.cons_append, List.nil_append, if_true, if_false, Bool.false_eq_true, e1, e2, e3, f1, f2, f3, y2, part]
def cB (Fs : Fns) : D → SM := fun x E S => (R.of (asgT (.seq [.nm 1, .nm 2]) x E) S).bind fun E' S => semB Fs gs 100000 [.iff (.notE (.call 9 [(.var 2)])) [.raise 1 [(.var 1)]] []] E' S
theorem cB_eq (Fs : Fns) (x : D) (E : Env) (S : Store) : cB Fs x E S = (R.of (asgT (.seq [.nm 1, .nm 2]) x E) S).bind fun E' S => semB Fs gs 100000 [.iff (.notE (.call 9 [(.var 2)])) [.raise 1 [(.var 1)]] []] E' S := rfl
theorem chkp_loop (n : Nat) (v : Option Val) (S : Store) : ∀ (r : List (Str × Pt)) (w1 w2 : Option Val), (∀ x ∈ r, NmP x.2 ∧ BP 8000 x.2) → ∃ w1' w2', loop (cB (C (n + 3))) (r.map fun x => .tup [.str x.1, pt x.2]) [v, w1, w2] S = .ok (.nx, [v, w1', w2']) S
  | [], w1, w2, _ => ⟨w1, w2, rfl⟩
  | x :: r, w1, w2, h => by
    obtain ⟨w1', w2', e⟩ := chkp_loop n v S r (some (.d (.str x.1))) (some (.d (pt x.2))) fun y hy => h y (List.mem_cons_of_mem _ hy)
    obtain ⟨h1, h2⟩ := h x List.mem_cons_self
    have i := isp_run n x.2 S h1 h2
    refine ⟨w1', w2', ?_⟩
    rw [List.map_cons, lo_cons, ← e, cB_eq]
    simp [e_kN, e_kB, e_kI, e_kS, e_var, e_glb, e_fnv, e_typ, e_neg, e_bin, e_cmp, e_chn, e_and, e_or, e_not, e_ife, e_tup, e_lst, e_ix, e_slc, e_call, e_bi, e_mt, e_lc, e_dc, t_and, t_or, t_not, t_var, t_cmp, t_chn, t_call, t_bi, t_ix, i_var, i_call, i_bi, i_rng, i_zip, ss_nil, ss_cons, so_none, so_some, ea_nil, ea_cons, an_1, an_2, or_1, or_2, tan_1, tan_2, tor_1, tor_2, tal_0, tal_1, ep_0, ep_1, st_, st2_, tu_nil, tu_c, w_0, w_s, ca_ok, at1, at2_0, at2_1, at4_0, at4_1, at4_2, at4_3, bo_nil, bo_c, io_nil, io_c, is_int, is_intb, is_tup, g_0, g_s, p_d, p_own, p_ref, d_d, d_own, a_d, a_own, a_ref, c_lst, c_dct, pk_nil, pk_cons, sa_nil, sa_cons, ao_nil, ao_cons, b_add, b_sub, b_mul, b_div, b_mod, b_pow, b_cat, n_int, n_bl, cv, c_eq, c_ne, c_lt, c_le, c_gt, c_ge, c_in, c_notIn, eq_int, x_lst, x_tup, x_dct, tr_bl, tr_int, bi_len, bi_lent, bi_abs, bi_int, bi_all, bi_list, bi_listk, bi_listt, bi_tuple, bi_tuplet, io_lst, io_klst, io_tup, k_nil, k_cons, k_asg, k_asgS, k_asgN, k_setix, k_ex, k_ret, k_retN, k_iff, k_whl, k_for, k_brk, k_cont, lo_nil, lo_cons, li_some, as_nm, as_tup, as_0, as_s, f_rt, f_own, f_nx, R.bind_ok, R.of_some, Option.bind_some, Option.map_some, List.length_cons, List.length_nil, List.set_cons_zero, List.set_cons_succ, List.map_cons, List.map_nil, List.replicate, List.cons_append, List.nil_append, if_true, if_false, Bool.false_eq_true, i]
theorem for_chkp (Fs : Fns) (r : List D) (w1 w2 : Option Val) (S : Store) : semS Fs gs 100000 (.for (.seq [.nm 1, .nm 2]) (.var 0) [.iff (.notE (.call 9 [(.var 2)])) [.raise 1 [(.var 1)]] []]) [some (.d (.tup r)), w1, w2] S = loop (cB Fs) r [some (.d (.tup r)), w1, w2] S := rfl
theorem chkp_run (n : Nat) (r : List (Str × Pt)) (S : Store) (h : ∀ x ∈ r, NmP x.2 ∧ BP 8000 x.2) : C (n + 4) 20 [.d (.tup (r.map fun x => .tup [.str x.1, pt x.2]))] S = .ok (.d .non) S := by
  obtain ⟨w1, w2, e⟩ := chkp_loop n (some (.d (.tup (r.map fun x => .tup [.str x.1, pt x.2])))) S r none none h
  rw [call_at (fd := ⟨1, 3, b20⟩) rfl, r_run _ _ _ _ _ _ rfl]
  simp only [b20, e_kN, e_kB, e_kI, e_kS, e_var, e_glb, e_fnv, e_typ, e_neg, e_bin, e_cmp, e_chn, e_and, e_or, e_not, e_ife, e_tup, e_lst, e_ix, e_slc, e_call, e_bi, e_mt, e_lc, e_dc, t_and, t_or, t_not, t_var, t_cmp, t_chn, t_call, t_bi, t_ix, i_var, i_call, i_bi, i_rng, i_zip, ss_nil, ss_cons, so_none, so_some, ea_nil, ea_cons, an_1, an_2, or_1, or_2, tan_1, tan_2, tor_1, tor_2, tal_0, tal_1, ep_0, ep_1, st_, st2_, tu_nil, tu_c, w_0, w_s, ca_ok, at1, at2_0, at2_1, at4_0, at4_1, at4_2, at4_3, bo_nil, bo_c, io_nil, io_c, is_int, is_intb, is_tup, g_0, g_s, p_d, p_own, p_ref, d_d, d_own, a_d, a_own, a_ref, c_lst, c_dct, pk_nil, pk_cons, sa_nil, sa_cons, ao_nil, ao_cons, b_add, b_sub, b_mul, b_div, b_mod, b_pow, b_cat, n_int, n_bl, cv, c_eq, c_ne, c_lt, c_le, c_gt, c_ge, c_in, c_notIn, eq_int, x_lst, x_tup, x_dct, tr_bl, tr_int, bi_len, bi_lent, bi_abs, bi_int, bi_all, bi_list, bi_listk, bi_listt, bi_tuple, bi_tuplet, io_lst, io_klst, io_tup, k_nil, k_cons, k_asg, k_asgS, k_asgN, k_setix, k_ex, k_ret, k_retN, k_iff, k_whl, k_for, k_brk, k_cont, lo_nil, lo_cons, li_some, as_nm, as_tup, as_0, as_s, f_rt, f_own, f_nx, R.bind_ok, R.of_some, Option.bind_some, Option.map_some, List.length_cons, List.length_nil, List.set_cons_zero, List.set_cons_succ, List.map_cons, List.map_nil, List.replicate, List.cons_append, List.nil_append, if_true, if_false, Bool.false_eq_true, -k_for, for_chkp, Nat.reduceSub, Nat.reduceAdd]
  simp [-k_for, for_chkp, e, e_kN, e_kB, e_kI, e_kS, e_var, e_glb, e_fnv, e_typ, e_neg, e_bin, e_cmp, e_chn, e_and, e_or, e_not, e_ife, e_tup, e_lst, e_ix, e_slc, e_call, e_bi, e_mt, e_lc, e_dc, t_and, t_or, t_not, t_var, t_cmp, t_chn, t_call, t_bi, t_ix, i_var, i_call, i_bi, i_rng, i_zip, ss_nil, ss_cons, so_none, so_some, ea_nil, ea_cons, an_1, an_2, or_1, or_2, tan_1, tan_2, tor_1, tor_2, tal_0, tal_1, ep_0, ep_1, st_, st2_, tu_nil, tu_c, w_0, w_s, ca_ok, at1, at2_0, at2_1, at4_0, at4_1, at4_2, at4_3, bo_nil, bo_c, io_nil, io_c, is_int, is_intb, is_tup, g_0, g_s, p_d, p_own, p_ref, d_d, d_own, a_d, a_own, a_ref, c_lst, c_dct, pk_nil, pk_cons, sa_nil, sa_cons, ao_nil, ao_cons, b_add, b_sub, b_mul, b_div, b_mod, b_pow, b_cat, n_int, n_bl, cv, c_eq, c_ne, c_lt, c_le, c_gt, c_ge, c_in, c_notIn, eq_int, x_lst, x_tup, x_dct, tr_bl, tr_int, bi_len, bi_lent, bi_abs, bi_int, bi_all, bi_list, bi_listk, bi_listt, bi_tuple, bi_tuplet, io_lst, io_klst, io_tup, k_nil, k_cons, k_asg, k_asgS, k_asgN, k_setix, k_ex, k_ret, k_retN, k_iff, k_whl, k_for, k_brk, k_cont, lo_nil, lo_cons, li_some, as_nm, as_tup, as_0, as_s, f_rt, f_own, f_nx, R.bind_ok, R.of_some, Option.bind_some, Option.map_some, List.length_cons, List.length_nil, List.set_cons_zero, List.set_cons_succ, List.map_cons, List.map_nil, List.replicate, List.cons_append, List.nil_append, if_true, if_false, Bool.false_eq_true]
end K03

set_option maxHeartbeats 4000000
namespace K03
open Mi
open PySem (Str PyData)
section
variable (n : Nat) (a b c : Pt) (S : Store) {k : Nat} (hk : k ≤ 700) (ha : BP k a) (hb : BP k b) (hc : BP k c) (na : NmP a) (nb : NmP b) (nc : NmP c)
include hk ha hb hc na nb nc
theorem turn_run_ : C (n + 5) 21 [.d (pt a), .d (pt b), .d (pt c)] S = .ok (I (tn a b c)) S := by
  have e1 : C (n + 4) 20 [.d (.tup [.tup [.str "a", pt a], .tup [.str "b", pt b], .tup [.str "c", pt c]])] S = .ok (.d .non) S := chkp_run n [("a", a), ("b", b), ("c", c)] S fun x hx => by
    simp only [List.mem_cons, List.not_mem_nil, or_false] at hx
    rcases hx with e | e | e <;> subst e
    · exact ⟨na, ha.mono (by omega)⟩
    · exact ⟨nb, hb.mono (by omega)⟩
    · exact ⟨nc, hc.mono (by omega)⟩
  have e2 := turnin_run (n + 2) a b c S (k := k) (by omega) ha hb hc
  have y2 : 2 ≤ PySem.sizeLine := by decide
  have y3 : 3 ≤ PySem.sizeLine := by decide
  rw [call_at (fd := ⟨3, 3, b21⟩) rfl, r_run _ _ _ _ _ _ rfl]
  simp [b21, e_kN, e_kB, e_kI, e_kS, e_var, e_glb, e_fnv, e_typ, e_neg, e_bin, e_cmp, e_chn, e_and, e_or, e_not, e_ife, e_tup, e_lst, e_ix, e_slc, e_call, e_bi, e_mt, e_lc, e_dc, t_and, t_or, t_not, t_var, t_cmp, t_chn, t_call, t_bi, t_ix, i_var, i_call, i_bi, i_rng, i_zip, ss_nil, ss_cons, so_none, so_some, ea_nil, ea_cons, an_1, an_2, or_1, or_2, tan_1, tan_2, tor_1, tor_2, tal_0, tal_1, ep_0, ep_1, st_, st2_, tu_nil, tu_c, w_0, w_s, ca_ok, at1, at2_0, at2_1, at4_0, at4_1, at4_2, at4_3, bo_nil, bo_c, io_nil, io_c, is_int, is_intb, is_tup, g_0, g_s, p_d, p_own, p_ref, d_d, d_own, a_d, a_own, a_ref, c_lst, c_dct, pk_nil, pk_cons, sa_nil, sa_cons, ao_nil, ao_cons, b_add, b_sub, b_mul, b_div, b_mod, b_pow, b_cat, n_int, n_bl, cv, c_eq, c_ne, c_lt, c_le, c_gt, c_ge, c_in, c_notIn, eq_int, x_lst, x_tup, x_dct, tr_bl, tr_int, bi_len, bi_lent, bi_abs, bi_int, bi_all, bi_list, bi_listk, bi_listt, bi_tuple, bi_tuplet, io_lst, io_klst, io_tup, k_nil, k_cons, k_asg, k_asgS, k_asgN, k_setix, k_ex, k_ret, k_retN, k_iff, k_whl, k_for, k_brk, k_cont, lo_nil, lo_cons, li_some, as_nm, as_tup, as_0, as_s, f_rt, f_own, f_nx, R.bind_ok, R.of_some, Option.bind_some, Option.map_some, List.length_cons, List.length_nil, List.set_cons_zero, List.set_cons_succ, List.map_cons, List.map_nil, List.replicate, List.cons_append, List.nil_append, if_true, if_false, Bool.false_eq_true, e1, e2, y2, y3]
theorem on_run : C (n + 5) 22 [.d (pt a), .d (pt b), .d (pt c)] S = .ok (.d (.bl (on_ a b c))) S := by
  have e1 : C (n + 4) 20 [.d (.tup [.tup [.str "a", pt a], .tup [.str "b", pt b], .tup [.str "p", pt c]])] S = .ok (.d .non) S := chkp_run n [("a", a), ("b", b), ("p", c)] S fun x hx => by
    simp only [List.mem_cons, List.not_mem_nil, or_false] at hx
    rcases hx with e | e | e <;> subst e
    · exact ⟨na, ha.mono (by omega)⟩
    · exact ⟨nb, hb.mono (by omega)⟩
    · exact ⟨nc, hc.mono (by omega)⟩
  have e2 := onin_run n a b c S (k := k) (by omega) ha hb hc
  have y2 : 2 ≤ PySem.sizeLine := by decide
  have y3 : 3 ≤ PySem.sizeLine := by decide
  rw [call_at (fd := ⟨3, 3, b22⟩) rfl, r_run _ _ _ _ _ _ rfl]
  simp [b22, e_kN, e_kB, e_kI, e_kS, e_var, e_glb, e_fnv, e_typ, e_neg, e_bin, e_cmp, e_chn, e_and, e_or, e_not, e_ife, e_tup, e_lst, e_ix, e_slc, e_call, e_bi, e_mt, e_lc, e_dc, t_and, t_or, t_not, t_var, t_cmp, t_chn, t_call, t_bi, t_ix, i_var, i_call, i_bi, i_rng, i_zip, ss_nil, ss_cons, so_none, so_some, ea_nil, ea_cons, an_1, an_2, or_1, or_2, tan_1, tan_2, tor_1, tor_2, tal_0, tal_1, ep_0, ep_1, st_, st2_, tu_nil, tu_c, w_0, w_s, ca_ok, at1, at2_0, at2_1, at4_0, at4_1, at4_2, at4_3, bo_nil, bo_c, io_nil, io_c, is_int, is_intb, is_tup, g_0, g_s, p_d, p_own, p_ref, d_d, d_own, a_d, a_own, a_ref, c_lst, c_dct, pk_nil, pk_cons, sa_nil, sa_cons, ao_nil, ao_cons, b_add, b_sub, b_mul, b_div, b_mod, b_pow, b_cat, n_int, n_bl, cv, c_eq, c_ne, c_lt, c_le, c_gt, c_ge, c_in, c_notIn, eq_int, x_lst, x_tup, x_dct, tr_bl, tr_int, bi_len, bi_lent, bi_abs, bi_int, bi_all, bi_list, bi_listk, bi_listt, bi_tuple, bi_tuplet, io_lst, io_klst, io_tup, k_nil, k_cons, k_asg, k_asgS, k_asgN, k_setix, k_ex, k_ret, k_retN, k_iff, k_whl, k_for, k_brk, k_cont, lo_nil, lo_cons, li_some, as_nm, as_tup, as_0, as_s, f_rt, f_own, f_nx, R.bind_ok, R.of_some, Option.bind_some, Option.map_some, List.length_cons, List.length_nil, List.set_cons_zero, List.set_cons_succ, List.map_cons, List.map_nil, List.replicate, List.cons_append, List.nil_append, if_true, if_false, Bool.false_eq_true, e1, e2, y2, y3]
end
section
variable (n : Nat) (a b : Pt) (S : Store) {k : Nat} (hk : k ≤ 700) (ha : BP k a) (hb : BP k b) (na : NmP a) (nb : NmP b)
include hk ha hb na nb
theorem chk2_run : C (n + 4) 20 [.d (.tup [.tup [.str "a", pt a], .tup [.str "b", pt b]])] S = .ok (.d .non) S := chkp_run n [("a", a), ("b", b)] S fun x hx => by
    simp only [List.mem_cons, List.not_mem_nil, or_false] at hx
    rcases hx with e | e <;> subst e
    · exact ⟨na, ha.mono (by omega)⟩
    · exact ⟨nb, hb.mono (by omega)⟩
def sq (a b : Pt) : Int × Int := ad (ti (su b.1 a.1) (su b.1 a.1)) (ti (su b.2 a.2) (su b.2 a.2))
end
/-! the law's own arithmetic -/
section
variable (n : Nat) (p q : Int × Int) (S : Store) {k : Nat} (hk : k ≤ 1900) (h : Bp k p) (h' : Bp k q)
include hk h h'
theorem lahead_run : C (n + 1) 30 [.d (fr p), .d (fr q)] S = .ok (.d (.bl (ls p q))) S := by
  obtain ⟨m1, m2, m3, m4, m5⟩ := mul_ok p q (k := k) (by omega) h h'
  rw [call_at (fd := ⟨2, 2, b30⟩) rfl, r_run _ _ _ _ _ _ rfl]
  simp [b30, e_kN, e_kB, e_kI, e_kS, e_var, e_glb, e_fnv, e_typ, e_neg, e_bin, e_cmp, e_chn, e_and, e_or, e_not, e_ife, e_tup, e_lst, e_ix, e_slc, e_call, e_bi, e_mt, e_lc, e_dc, t_and, t_or, t_not, t_var, t_cmp, t_chn, t_call, t_bi, t_ix, i_var, i_call, i_bi, i_rng, i_zip, ss_nil, ss_cons, so_none, so_some, ea_nil, ea_cons, an_1, an_2, or_1, or_2, tan_1, tan_2, tor_1, tor_2, tal_0, tal_1, ep_0, ep_1, st_, st2_, tu_nil, tu_c, w_0, w_s, ca_ok, at1, at2_0, at2_1, at4_0, at4_1, at4_2, at4_3, bo_nil, bo_c, io_nil, io_c, is_int, is_intb, is_tup, g_0, g_s, p_d, p_own, p_ref, d_d, d_own, a_d, a_own, a_ref, c_lst, c_dct, pk_nil, pk_cons, sa_nil, sa_cons, ao_nil, ao_cons, b_add, b_sub, b_mul, b_div, b_mod, b_pow, b_cat, n_int, n_bl, cv, c_eq, c_ne, c_lt, c_le, c_gt, c_ge, c_in, c_notIn, eq_int, x_lst, x_tup, x_dct, tr_bl, tr_int, bi_len, bi_lent, bi_abs, bi_int, bi_all, bi_list, bi_listk, bi_listt, bi_tuple, bi_tuplet, io_lst, io_klst, io_tup, k_nil, k_cons, k_asg, k_asgS, k_asgN, k_setix, k_ex, k_ret, k_retN, k_iff, k_whl, k_for, k_brk, k_cont, lo_nil, lo_cons, li_some, as_nm, as_tup, as_0, as_s, f_rt, f_own, f_nx, R.bind_ok, R.of_some, Option.bind_some, Option.map_some, List.length_cons, List.length_nil, List.set_cons_zero, List.set_cons_succ, List.map_cons, List.map_nil, List.replicate, List.cons_append, List.nil_append, if_true, if_false, Bool.false_eq_true, m1, m2, ls]
end
end K03

set_option maxHeartbeats 4000000
namespace K03
open Mi
open PySem (Str PyData)
def cr (a b c : Pt) : Int × Int := su (ti (su b.1 a.1) (su c.2 a.2)) (ti (su b.2 a.2) (su c.1 a.1))
def bt1 (a b p : Int × Int) : Bool := !((ls p a && ls p b) || (ls a p && ls b p))
def bt (a b p : Pt) : Bool := bt1 a.1 b.1 p.1 && bt1 a.2 b.2 p.2
/-! the matrix, the shift, the divisors -/
structure Fm where
  p : Int
  q : Int
  r : Int
  s : Int
  u : Int
  v : Int
  w : Int
  z : Int
abbrev fm (f : Fm) : D := .tup [.int f.p, .int f.q, .int f.r, .int f.s, .int f.u, .int f.v, .int f.w, .int f.z]
structure FmOk (f : Fm) : Prop where
  p : B 21 f.p
  q : B 21 f.q
  r : B 21 f.r
  s : B 21 f.s
  u : B 21 f.u
  v : B 21 f.v
  w : B 21 f.w
  z : B 21 f.z
  w0 : 0 < f.w
  z0 : 0 < f.z
  det : f.p * f.s - f.q * f.r ≠ 0
/-- a place of the lattice, made a point -/
def mk (f : Fm) (P : Pt) : Pt := (lo (f.p * P.1.1 * P.2.2 + f.q * P.2.1 * P.1.2 + f.u * P.1.2 * P.2.2) (f.w * P.1.2 * P.2.2), lo (f.r * P.1.1 * P.2.2 + f.s * P.2.1 * P.1.2 + f.v * P.1.2 * P.2.2) (f.z * P.1.2 * P.2.2))
theorem point_run (n : Nat) (f : Fm) (P : Pt) (S : Store) {k : Nat} (hk : k ≤ 400) (hf : FmOk f) (h : BP k P) (nP : NmP P) : C (n + 2) 32 [.d (fm f), .d (pt P)] S = .ok (.d (pt (mk f P))) S ∧ BP (23 + k + k) (mk f P) ∧ NmP (mk f P) := by
  have hx := h.a.a
  have hm := h.a.b
  have hy := h.b.a
  have hn := h.b.b
  have m0 := nP.a.ne
  have n0 := nP.b.ne
  have wn : f.w * P.1.2 * P.2.2 ≠ 0 := Int.mul_ne_zero (Int.mul_ne_zero (by have := hf.w0; omega) m0) n0
  have zn : f.z * P.1.2 * P.2.2 ≠ 0 := Int.mul_ne_zero (Int.mul_ne_zero (by have := hf.z0; omega) m0) n0
  have ba : B (23 + k + k) (f.p * P.1.1 * P.2.2 + f.q * P.2.1 * P.1.2 + f.u * P.1.2 * P.2.2) := ((((hf.p.mul hx).mul hn).add ((hf.q.mul hy).mul hm)).add (((hf.u.mul hm).mul hn).mono (by omega))).mono (by omega)
  have bb : B (23 + k + k) (f.r * P.1.1 * P.2.2 + f.s * P.2.1 * P.1.2 + f.v * P.1.2 * P.2.2) := ((((hf.r.mul hx).mul hn).add ((hf.s.mul hy).mul hm)).add (((hf.v.mul hm).mul hn).mono (by omega))).mono (by omega)
  have bw : B (23 + k + k) (f.w * P.1.2 * P.2.2) := ((hf.w.mul hm).mul hn).mono (by omega)
  have bz : B (23 + k + k) (f.z * P.1.2 * P.2.2) := ((hf.z.mul hm).mul hn).mono (by omega)
  have l1 := llow_run n _ _ S wn (ba.mono (by omega)) (bw.mono (by omega))
  have l2 := llow_run n _ _ S zn (bb.mono (by omega)) (bz.mono (by omega))
  have c1 := cmul_ok hf.p hx (by omega)
  have c2 := cmul_ok (hf.p.mul hx) hn (by omega)
  have c3 := cmul_ok hf.q hy (by omega)
  have c4 := cmul_ok (hf.q.mul hy) hm (by omega)
  have c5 := cmul_ok hf.u hm (by omega)
  have c6 := cmul_ok (hf.u.mul hm) hn (by omega)
  have c7 := cmul_ok hf.w hm (by omega)
  have c8 := cmul_ok (hf.w.mul hm) hn (by omega)
  have d1 := cmul_ok hf.r hx (by omega)
  have d2 := cmul_ok (hf.r.mul hx) hn (by omega)
  have d3 := cmul_ok hf.s hy (by omega)
  have d4 := cmul_ok (hf.s.mul hy) hm (by omega)
  have d5 := cmul_ok hf.v hm (by omega)
  have d6 := cmul_ok (hf.v.mul hm) hn (by omega)
  have d7 := cmul_ok hf.z hm (by omega)
  have d8 := cmul_ok (hf.z.mul hm) hn (by omega)
  have y2 : 2 ≤ PySem.sizeLine := by decide
  refine ⟨?_, ⟨Bp.lo ba bw, Bp.lo bb bz⟩, ⟨lo_nm _ _ wn, lo_nm _ _ zn⟩⟩
  rw [call_at (fd := ⟨2, 14, b32⟩) rfl, r_run _ _ _ _ _ _ rfl]
  simp [b32, e_kN, e_kB, e_kI, e_kS, e_var, e_glb, e_fnv, e_typ, e_neg, e_bin, e_cmp, e_chn, e_and, e_or, e_not, e_ife, e_tup, e_lst, e_ix, e_slc, e_call, e_bi, e_mt, e_lc, e_dc, t_and, t_or, t_not, t_var, t_cmp, t_chn, t_call, t_bi, t_ix, i_var, i_call, i_bi, i_rng, i_zip, ss_nil, ss_cons, so_none, so_some, ea_nil, ea_cons, an_1, an_2, or_1, or_2, tan_1, tan_2, tor_1, tor_2, tal_0, tal_1, ep_0, ep_1, st_, st2_, tu_nil, tu_c, w_0, w_s, ca_ok, at1, at2_0, at2_1, at4_0, at4_1, at4_2, at4_3, bo_nil, bo_c, io_nil, io_c, is_int, is_intb, is_tup, g_0, g_s, p_d, p_own, p_ref, d_d, d_own, a_d, a_own, a_ref, c_lst, c_dct, pk_nil, pk_cons, sa_nil, sa_cons, ao_nil, ao_cons, b_add, b_sub, b_mul, b_div, b_mod, b_pow, b_cat, n_int, n_bl, cv, c_eq, c_ne, c_lt, c_le, c_gt, c_ge, c_in, c_notIn, eq_int, x_lst, x_tup, x_dct, tr_bl, tr_int, bi_len, bi_lent, bi_abs, bi_int, bi_all, bi_list, bi_listk, bi_listt, bi_tuple, bi_tuplet, io_lst, io_klst, io_tup, k_nil, k_cons, k_asg, k_asgS, k_asgN, k_setix, k_ex, k_ret, k_retN, k_iff, k_whl, k_for, k_brk, k_cont, lo_nil, lo_cons, li_some, as_nm, as_tup, as_0, as_s, f_rt, f_own, f_nx, R.bind_ok, R.of_some, Option.bind_some, Option.map_some, List.length_cons, List.length_nil, List.set_cons_zero, List.set_cons_succ, List.map_cons, List.map_nil, List.replicate, List.cons_append, List.nil_append, if_true, if_false, Bool.false_eq_true, l1, l2, c1, c2, c3, c4, c5, c6, c7, c8, d1, d2, d3, d4, d5, d6, d7, d8, y2, mk]
end K03

set_option maxHeartbeats 4000000
namespace K03
open Mi
open PySem (Str PyData)
/-! ### as rational numbers -/
def val (p : Int × Int) : Rat := (p.1 : Rat) / (p.2 : Rat)
theorem cast_ne {i : Int} (h : i ≠ 0) : (i : Rat) ≠ 0 := by simpa using h
theorem cast_pos {i : Int} (h : 0 < i) : (0 : Rat) < (i : Rat) := by
  have := Rat.intCast_lt_intCast.mpr h
  simpa using this
theorem lo_cross (u v : Int) (h : v ≠ 0) : (lo u v).1 * v = u * (lo u v).2 := by
  have d1 := Int.mul_ediv_cancel' (Int.gcd_dvd_left u v)
  have d2 := Int.mul_ediv_cancel' (Int.gcd_dvd_right u v)
  have n1 := Int.neg_ediv_of_dvd (Int.gcd_dvd_left u v)
  have n2 := Int.neg_ediv_of_dvd (Int.gcd_dvd_right u v)
  unfold lo
  split
  · show -u / _ * v = u * (-v / _)
    rw [n1, n2]
    generalize hu : u / (Int.gcd u v : Int) = a at *
    generalize hv : v / (Int.gcd u v : Int) = b at *
    generalize (Int.gcd u v : Int) = g at *
    rw [← d1, ← d2]
    grind
  · show u / _ * v = u * (v / _)
    generalize hu : u / (Int.gcd u v : Int) = a at *
    generalize hv : v / (Int.gcd u v : Int) = b at *
    generalize (Int.gcd u v : Int) = g at *
    rw [← d1, ← d2]
    grind
theorem val_lo (u v : Int) (h : v ≠ 0) : val (lo u v) = (u : Rat) / (v : Rat) := by
  have c := lo_cross u v h
  have q0 := cast_ne (lo_nm u v h).ne
  have v0 := cast_ne h
  have c' : ((lo u v).1 : Rat) * v = u * ((lo u v).2 : Rat) := by rw [← Rat.intCast_mul, c, Rat.intCast_mul]
  unfold val
  grind
theorem val_ad {p q : Int × Int} (hp : Nm p) (hq : Nm q) : val (ad p q) = val p + val q := by
  have a := cast_ne hp.ne
  have b := cast_ne hq.ne
  unfold ad
  rw [val_lo _ _ (Int.mul_ne_zero hp.ne hq.ne), Rat.intCast_add, Rat.intCast_mul, Rat.intCast_mul, Rat.intCast_mul]
  unfold val
  grind
theorem val_su {p q : Int × Int} (hp : Nm p) (hq : Nm q) : val (su p q) = val p - val q := by
  have a := cast_ne hp.ne
  have b := cast_ne hq.ne
  unfold su
  rw [val_lo _ _ (Int.mul_ne_zero hp.ne hq.ne), Rat.intCast_sub, Rat.intCast_mul, Rat.intCast_mul, Rat.intCast_mul]
  unfold val
  grind
theorem val_ti {p q : Int × Int} (hp : Nm p) (hq : Nm q) : val (ti p q) = val p * val q := by
  have a := cast_ne hp.ne
  have b := cast_ne hq.ne
  unfold ti
  rw [val_lo _ _ (Int.mul_ne_zero hp.ne hq.ne), Rat.intCast_mul, Rat.intCast_mul]
  unfold val
  grind
theorem ls_val {p q : Int × Int} (hp : Nm p) (hq : Nm q) : ls p q = true ↔ val p < val q := by
  have a := cast_pos hp.pos
  have b := cast_pos hq.pos
  unfold ls
  rw [decide_eq_true_eq, ← Rat.intCast_lt_intCast, Rat.intCast_mul, Rat.intCast_mul]
  have e1 : (p.1 : Rat) = val p * p.2 := by unfold val; grind
  have e2 : (q.1 : Rat) = val q * q.2 := by unfold val; grind
  rw [e1, e2]
  generalize val p = x
  generalize val q = y
  generalize (p.2 : Rat) = m at *
  generalize (q.2 : Rat) = n at *
  have mn : 0 < m * n := Rat.mul_pos a b
  constructor
  · intro h
    have h2 : x * (m * n) < y * (m * n) := by grind
    exact Rat.lt_of_mul_lt_mul_right h2 (Rat.le_of_lt mn)
  · intro h
    have h2 : x * (m * n) < y * (m * n) := Rat.mul_lt_mul_of_pos_right h mn
    grind
end K03

set_option maxHeartbeats 4000000
namespace K03
open Mi
open PySem (Str PyData)
theorem cop {p : Int × Int} (h : Nm p) {x : Int} (d : p.2 ∣ p.1 * x) : p.2 ∣ x := by
  refine Int.natAbs_dvd_natAbs.mp (Nat.Coprime.dvd_of_dvd_mul_left (m := p.1.natAbs) ?_ ?_)
  · show Nat.gcd p.2.natAbs p.1.natAbs = 1
    rw [Nat.gcd_comm]; exact h.one
  · rw [← Int.natAbs_mul]; exact Int.natAbs_dvd_natAbs.mpr d
theorem cross_inj {p q : Int × Int} (n1 : Nm p) (n2 : Nm q) (c : p.1 * q.2 = q.1 * p.2) : p = q := by
  have d1 : p.2 ∣ q.2 := cop n1 (by rw [c]; exact Int.dvd_mul_left _ _)
  have d2 : q.2 ∣ p.2 := cop n2 (by rw [← c]; exact Int.dvd_mul_left _ _)
  have e2 : p.2 = q.2 := Int.dvd_antisymm (Int.le_of_lt n1.pos) (Int.le_of_lt n2.pos) d1 d2
  have e1 : p.1 = q.1 := by
    rw [e2] at c
    exact Int.eq_of_mul_eq_mul_right n2.ne c
  exact Prod.ext e1 e2
theorem val_inj {p q : Int × Int} (hp : Nm p) (hq : Nm q) (h : val p = val q) : p = q := by
  refine cross_inj hp hq ?_
  have a := cast_ne hp.ne
  have b := cast_ne hq.ne
  unfold val at h
  have e : (p.1 : Rat) * q.2 = q.1 * p.2 := by grind
  rw [← Rat.intCast_mul, ← Rat.intCast_mul] at e
  exact Rat.intCast_inj.mp e
/-- twice the area -/
def D2 (xa ya xb yb xc yc : Rat) : Rat := (xb - xa) * (yc - ya) - (yb - ya) * (xc - xa)
def DD (a b c : Pt) : Rat := D2 (val a.1) (val a.2) (val b.1) (val b.2) (val c.1) (val c.2)
theorem gp_val {p q : Int × Int} (hp : Nm p) (hq : Nm q) : ((gp p q).1 : Rat) = (val q - val p) * ((gp p q).2 : Rat) ∧ 0 < (gp p q).2 := by
  have a := cast_ne hp.ne
  have b := cast_ne hq.ne
  refine ⟨?_, Int.mul_pos hq.pos hp.pos⟩
  unfold gp val
  simp only [Rat.intCast_sub, Rat.intCast_mul]
  grind
theorem tw_val {a b c : Pt} (na : NmP a) (nb : NmP b) (nc : NmP c) : ∃ m : Rat, 0 < m ∧ (tw1 a b c : Rat) - (tw2 a b c : Rat) = DD a b c * m := by
  obtain ⟨x1, x0⟩ := gp_val na.a nb.a
  obtain ⟨y1, y0⟩ := gp_val na.b nb.b
  obtain ⟨u1, u0⟩ := gp_val na.a nc.a
  obtain ⟨v1, v0⟩ := gp_val na.b nc.b
  refine ⟨((gp a.1 b.1).2 : Rat) * ((gp a.2 b.2).2 : Rat) * (((gp a.1 c.1).2 : Rat) * ((gp a.2 c.2).2 : Rat)), Rat.mul_pos (Rat.mul_pos (cast_pos x0) (cast_pos y0)) (Rat.mul_pos (cast_pos u0) (cast_pos v0)), ?_⟩
  unfold tw1 tw2 DD D2
  simp only [Rat.intCast_mul, x1, y1, u1, v1]
  grind
theorem mul_pos_iff {x m : Rat} (h : 0 < m) : 0 < x * m ↔ 0 < x := by
  constructor
  · intro g
    exact Rat.lt_of_mul_lt_mul_right (c := m) (by rw [Rat.zero_mul]; exact g) (Rat.le_of_lt h)
  · intro g; exact Rat.mul_pos g h
theorem tn_val {a b c : Pt} (na : NmP a) (nb : NmP b) (nc : NmP c) : (tn a b c = 0 ↔ DD a b c = 0) ∧ (tn a b c = 1 ↔ 0 < DD a b c) := by
  obtain ⟨m, m0, e⟩ := tw_val na nb nc
  have z : tw1 a b c = tw2 a b c ↔ DD a b c = 0 := by
    rw [← Rat.intCast_inj]
    constructor
    · intro h
      have : DD a b c * m = 0 := by rw [← e, h]; grind
      rcases Rat.mul_eq_zero.mp this with q | q
      · exact q
      · rw [q] at m0; exact absurd m0 (by decide)
    · intro h
      rw [h] at e
      grind
  have p : tw2 a b c < tw1 a b c ↔ 0 < DD a b c := by
    rw [← Rat.intCast_lt_intCast, ← mul_pos_iff (x := DD a b c) m0, ← e]
    constructor <;> intro h <;> grind
  unfold tn
  by_cases h1 : tw1 a b c = tw2 a b c
  · rw [if_pos h1]
    have := z.mp h1
    rw [this]
    refine ⟨by simp, ?_⟩
    constructor
    · intro h; exact absurd h (by decide)
    · intro h; exact absurd h (by decide)
  · rw [if_neg h1]
    have nz : ¬ DD a b c = 0 := fun h => h1 (z.mpr h)
    by_cases h2 : tw2 a b c < tw1 a b c
    · rw [if_pos h2]
      exact ⟨⟨fun h => absurd h (by decide), fun h => absurd h nz⟩, ⟨fun _ => p.mp h2, fun _ => rfl⟩⟩
    · rw [if_neg h2]
      exact ⟨⟨fun h => absurd h (by decide), fun h => absurd h nz⟩, ⟨fun h => absurd h (by decide), fun h => absurd (p.mpr h) h2⟩⟩
theorem cr_val {a b c : Pt} (na : NmP a) (nb : NmP b) (nc : NmP c) : val (cr a b c) = DD a b c ∧ Nm (cr a b c) := by
  have n1 := su_nm nb.a na.a
  have n2 := su_nm nc.b na.b
  have n3 := su_nm nb.b na.b
  have n4 := su_nm nc.a na.a
  refine ⟨?_, su_nm (ti_nm n1 n2) (ti_nm n3 n4)⟩
  unfold cr DD D2
  rw [val_su (ti_nm n1 n2) (ti_nm n3 n4), val_ti n1 n2, val_ti n3 n4, val_su nb.a na.a, val_su nc.b na.b, val_su nb.b na.b, val_su nc.a na.a]
theorem mk_val {k : Nat} {f : Fm} {P : Pt} (hf : FmOk f) (h : NmP P) : val (mk f P).1 = ((f.p : Rat) * val P.1 + f.q * val P.2 + f.u) / f.w ∧ val (mk f P).2 = ((f.r : Rat) * val P.1 + f.s * val P.2 + f.v) / f.z := by
  have m0 := cast_ne h.a.ne
  have n0 := cast_ne h.b.ne
  have w0 : f.w ≠ 0 := by have := hf.w0; omega
  have z0 : f.z ≠ 0 := by have := hf.z0; omega
  have w1 := cast_ne w0
  have z1 := cast_ne z0
  unfold mk
  rw [val_lo _ _ (Int.mul_ne_zero (Int.mul_ne_zero w0 h.a.ne) h.b.ne), val_lo _ _ (Int.mul_ne_zero (Int.mul_ne_zero z0 h.a.ne) h.b.ne)]
  simp only [Rat.intCast_add, Rat.intCast_mul]
  unfold val
  constructor <;> grind
theorem mk_DD {f : Fm} {a b c : Pt} (hf : FmOk f) (na : NmP a) (nb : NmP b) (nc : NmP c) : DD (mk f a) (mk f b) (mk f c) * ((f.w : Rat) * f.z) = ((f.p : Rat) * f.s - f.q * f.r) * DD a b c := by
  obtain ⟨a1, a2⟩ := mk_val (k := 0) hf na
  obtain ⟨b1, b2⟩ := mk_val (k := 0) hf nb
  obtain ⟨c1, c2⟩ := mk_val (k := 0) hf nc
  have w1 := cast_ne (show f.w ≠ 0 by have := hf.w0; omega)
  have z1 := cast_ne (show f.z ≠ 0 by have := hf.z0; omega)
  unfold DD D2
  rw [a1, a2, b1, b2, c1, c2]
  grind
end K03

set_option maxHeartbeats 4000000
namespace K03
open Mi
open PySem (Str PyData)
open Classical in
noncomputable def sg (x : Rat) : Int := if x = 0 then 0 else if 0 < x then 1 else -1
theorem sg_0 : sg 0 = 0 := if_pos rfl
theorem sg_p {x : Rat} (h : 0 < x) : sg x = 1 := by unfold sg; rw [if_neg (fun e => by rw [e] at h; exact absurd h (by decide)), if_pos h]
theorem sg_n {x : Rat} (h : x < 0) : sg x = -1 := by
  unfold sg
  rw [if_neg (fun e => by rw [e] at h; exact absurd h (by decide)), if_neg (fun g => by grind)]
theorem sg_cases (x : Rat) : x = 0 ∨ 0 < x ∨ x < 0 := by grind
theorem tn_sg {a b c : Pt} (na : NmP a) (nb : NmP b) (nc : NmP c) : tn a b c = sg (DD a b c) := by
  obtain ⟨h0, h1⟩ := tn_val na nb nc
  have three : tn a b c = 0 ∨ tn a b c = 1 ∨ tn a b c = -1 := by
    unfold tn
    split
    · exact .inl rfl
    · split
      · exact .inr (.inl rfl)
      · exact .inr (.inr rfl)
  rcases sg_cases (DD a b c) with z | z | z
  · rw [z, sg_0]; exact h0.mpr z
  · rw [sg_p z]; exact h1.mpr z
  · rw [sg_n z]
    rcases three with t | t | t
    · have := h0.mp t; grind
    · have := h1.mp t; grind
    · exact t
theorem sg_neg (x : Rat) : sg (-x) = -sg x := by
  rcases sg_cases x with z | z | z
  · rw [z]; have e : (-0 : Rat) = 0 := by grind
    rw [e, sg_0]; rfl
  · rw [sg_p z, sg_n (by grind)]
  · rw [sg_n z, sg_p (by grind)]; rfl
theorem sg_mul_pos {x m : Rat} (h : 0 < m) : sg (x * m) = sg x := by
  rcases sg_cases x with z | z | z
  · rw [z, Rat.zero_mul]
  · rw [sg_p z, sg_p (Rat.mul_pos z h)]
  · have : 0 < (-x) * m := Rat.mul_pos (by grind) h
    rw [sg_n z, sg_n (by grind)]
theorem DD_swap (a b c : Pt) : DD b a c = - DD a b c := by unfold DD D2; grind
theorem DD_turn (a b c : Pt) : DD b c a = DD a b c := by unfold DD D2; grind
/-- the side that the law expects -/
def due (f : Fm) (x : Int × Int) : Int := if x.1 = 0 then 0 else if 0 < x.1 then (if 0 < f.p * f.s - f.q * f.r then 1 else -1) else -(if 0 < f.p * f.s - f.q * f.r then 1 else -1)
theorem side_ok {f : Fm} {a b c : Pt} (hf : FmOk f) (na : NmP a) (nb : NmP b) (nc : NmP c) (ma : NmP (mk f a)) (mb : NmP (mk f b)) (mc : NmP (mk f c)) : tn (mk f a) (mk f b) (mk f c) = due f (cr a b c) := by
  have e := mk_DD hf na nb nc
  obtain ⟨v, n⟩ := cr_val na nb nc
  have wz : 0 < (f.w : Rat) * f.z := Rat.mul_pos (cast_pos hf.w0) (cast_pos hf.z0)
  have d0 := cast_pos n.pos
  rw [tn_sg ma mb mc, ← sg_mul_pos (x := DD (mk f a) (mk f b) (mk f c)) wz, e]
  have x1 : ((cr a b c).1 : Rat) = DD a b c * ((cr a b c).2 : Rat) := by
    rw [← v]; unfold val
    have := cast_ne n.ne
    grind
  have dt : (f.p : Rat) * f.s - f.q * f.r = ((f.p * f.s - f.q * f.r : Int) : Rat) := by
    rw [Rat.intCast_sub, Rat.intCast_mul, Rat.intCast_mul]
  rw [dt]
  have dn := hf.det
  unfold due
  rcases Int.lt_trichotomy (cr a b c).1 0 with z | z | z
  · have dneg : DD a b c < 0 := by
      have h : ((cr a b c).1 : Rat) < 0 := by have := Rat.intCast_lt_intCast.mpr z; simpa using this
      rcases sg_cases (DD a b c) with g | g | g
      · rw [g] at x1; grind
      · have := Rat.mul_pos g d0; grind
      · exact g
    rw [if_neg (by omega), if_neg (by omega)]
    by_cases q : 0 < f.p * f.s - f.q * f.r
    · rw [if_pos q, Rat.mul_comm, sg_mul_pos (cast_pos q), sg_n dneg]
    · rw [if_neg q]
      have q' : 0 < -(f.p * f.s - f.q * f.r) := by omega
      have qp := cast_pos q'
      rw [Rat.intCast_neg] at qp
      have := sg_mul_pos (x := DD a b c) qp
      have e2 : ((f.p * f.s - f.q * f.r : Int) : Rat) * DD a b c = -(DD a b c * -((f.p * f.s - f.q * f.r : Int) : Rat)) := by grind
      rw [e2, sg_neg, this, sg_n dneg]
  · have d00 : DD a b c = 0 := by
      have h : ((cr a b c).1 : Rat) = 0 := by rw [z]; rfl
      rw [h] at x1
      rcases Rat.mul_eq_zero.mp x1.symm with g | g
      · exact g
      · rw [g] at d0; exact absurd d0 (by decide)
    rw [if_pos z, d00, Rat.mul_zero, sg_0]
  · have dpos : 0 < DD a b c := by
      have h := cast_pos z
      rw [x1] at h
      exact (mul_pos_iff d0).mp h
    rw [if_neg (by omega), if_pos z]
    by_cases q : 0 < f.p * f.s - f.q * f.r
    · rw [if_pos q, sg_p (Rat.mul_pos (cast_pos q) dpos)]
    · rw [if_neg q]
      have q' : 0 < -(f.p * f.s - f.q * f.r) := by omega
      have qp := cast_pos q'
      rw [Rat.intCast_neg] at qp
      have := Rat.mul_pos qp dpos
      rw [sg_n (by grind)]
theorem mk_inj {f : Fm} {a b : Pt} (hf : FmOk f) (na : NmP a) (nb : NmP b) (h : mk f a = mk f b) : a = b := by
  obtain ⟨a1, a2⟩ := mk_val (k := 0) hf na
  obtain ⟨b1, b2⟩ := mk_val (k := 0) hf nb
  rw [h] at a1 a2
  have w1 := cast_ne (show f.w ≠ 0 by have := hf.w0; omega)
  have z1 := cast_ne (show f.z ≠ 0 by have := hf.z0; omega)
  have e1 := a1.symm.trans b1
  have e2 := a2.symm.trans b2
  have dn : ((f.p : Rat) * f.s - f.q * f.r) ≠ 0 := by
    have := cast_ne hf.det
    rw [Rat.intCast_sub, Rat.intCast_mul, Rat.intCast_mul] at this
    exact this
  have f1 : (f.p : Rat) * val a.1 + f.q * val a.2 = f.p * val b.1 + f.q * val b.2 := by grind
  have f2 : (f.r : Rat) * val a.1 + f.s * val a.2 = f.r * val b.1 + f.s * val b.2 := by grind
  have g1 : ((f.p : Rat) * f.s - f.q * f.r) * (val a.1 - val b.1) = 0 := by grind
  have g2 : ((f.p : Rat) * f.s - f.q * f.r) * (val a.2 - val b.2) = 0 := by grind
  have h1 : val a.1 = val b.1 := by
    rcases Rat.mul_eq_zero.mp g1 with q | q
    · exact absurd q dn
    · grind
  have h2 : val a.2 = val b.2 := by
    rcases Rat.mul_eq_zero.mp g2 with q | q
    · exact absurd q dn
    · grind
  exact Prod.ext (val_inj na.a nb.a h1) (val_inj na.b nb.b h2)
end K03

set_option maxHeartbeats 4000000
namespace K03
open Mi
open PySem (Str PyData)
theorem ah_val {P Q : Pt} (h : NmP P) (h' : NmP Q) : ah P Q = true ↔ val P.1 < val Q.1 ∨ (val P.1 = val Q.1 ∧ val P.2 < val Q.2) := by
  unfold ah
  by_cases z : P.1 = Q.1
  · rw [if_pos z, ls_val h.b h'.b, z]
    constructor
    · intro g; exact .inr ⟨rfl, g⟩
    · rintro (g | g)
      · grind
      · exact g.2
  · rw [if_neg z, ls_val h.a h'.a]
    have n : val P.1 ≠ val Q.1 := fun e => z (val_inj h.a h'.a e)
    constructor
    · exact .inl
    · rintro (g | g)
      · exact g
      · exact absurd g.1 n
theorem t_pos {t d : Rat} (h : 0 < d) : (0 ≤ t * d ↔ 0 ≤ t) ∧ (t * d ≤ d ↔ t ≤ 1) := by
  constructor
  · constructor
    · intro g
      rcases sg_cases t with z | z | z
      · grind
      · grind
      · have := Rat.mul_pos (a := -t) (by grind) h; grind
    · intro g; exact Rat.mul_nonneg g (Rat.le_of_lt h)
  · constructor
    · intro g
      rcases sg_cases (t - 1) with z | z | z
      · grind
      · have := Rat.mul_pos z h; grind
      · grind
    · intro g
      have := Rat.mul_nonneg (a := 1 - t) (b := d) (by grind) (Rat.le_of_lt h)
      grind
theorem t_neg {t d : Rat} (h : d < 0) : (t * d ≤ 0 ↔ 0 ≤ t) ∧ (d ≤ t * d ↔ t ≤ 1) := by
  obtain ⟨h1, h2⟩ := t_pos (t := t) (d := -d) (by grind)
  constructor
  · rw [← h1]; constructor <;> intro g <;> grind
  · rw [← h2]; constructor <;> intro g <;> grind
/-- c lies at t between a and b -/
structure AtT (t : Rat) (a b c : Pt) : Prop where
  x : val c.1 = val a.1 + t * (val b.1 - val a.1)
  y : val c.2 = val a.2 + t * (val b.2 - val a.2)
theorem bt1_t {t : Rat} {a b p : Int × Int} (na : Nm a) (nb : Nm b) (np : Nm p) (h : val p = val a + t * (val b - val a)) : bt1 a b p = true ↔ (val a = val b ∨ (0 ≤ t ∧ t ≤ 1)) := by
  have e : bt1 a b p = true ↔ ¬ ((val p < val a ∧ val p < val b) ∨ (val a < val p ∧ val b < val p)) := by
    unfold bt1
    simp only [Bool.not_eq_true', Bool.or_eq_false_iff, Bool.and_eq_false_iff]
    rw [← ls_val np na, ← ls_val np nb, ← ls_val na np, ← ls_val nb np]
    cases ls p a <;> cases ls p b <;> cases ls a p <;> cases ls b p <;> simp
  rw [e]
  rcases sg_cases (val b - val a) with z | z | z
  · grind
  · obtain ⟨h1, h2⟩ := t_pos (t := t) z
    grind
  · obtain ⟨h1, h2⟩ := t_neg (t := t) z
    grind
theorem bt_t {t : Rat} {a b c : Pt} (na : NmP a) (nb : NmP b) (nc : NmP c) (ne : a ≠ b) (h : AtT t a b c) : bt a b c = true ↔ (0 ≤ t ∧ t ≤ 1) := by
  unfold bt
  rw [Bool.and_eq_true, bt1_t na.a nb.a nc.a h.x, bt1_t na.b nb.b nc.b h.y]
  constructor
  · rintro ⟨h1, h2⟩
    rcases h1 with h1 | h1
    · rcases h2 with h2 | h2
      · exact absurd (Prod.ext (val_inj na.a nb.a h1) (val_inj na.b nb.b h2)) ne
      · exact h2
    · exact h1
  · intro g; exact ⟨.inr g, .inr g⟩
theorem on_t {t : Rat} {a b c : Pt} (na : NmP a) (nb : NmP b) (nc : NmP c) (ne : a ≠ b) (h : AtT t a b c) (z : tn a b c = 0) : on_ a b c = true ↔ (0 ≤ t ∧ t ≤ 1) := by
  have hx := h.x
  have hy := h.y
  have dist : val a.1 = val b.1 → val a.2 ≠ val b.2 := fun e1 e2 => ne (Prod.ext (val_inj na.a nb.a e1) (val_inj na.b nb.b e2))
  have core : ∀ (P Q : Pt), NmP P → NmP Q → ((!ah c P && !ah Q c) = true ↔ ¬ (val c.1 < val P.1 ∨ (val c.1 = val P.1 ∧ val c.2 < val P.2)) ∧ ¬ (val Q.1 < val c.1 ∨ (val Q.1 = val c.1 ∧ val Q.2 < val c.2))) := fun P Q hP hQ => by
    rw [← ah_val nc hP, ← ah_val hQ nc, Bool.and_eq_true, Bool.not_eq_true', Bool.not_eq_true', Bool.not_eq_true, Bool.not_eq_true]
  unfold on_
  rw [if_neg ne, if_pos z]
  unfold ri
  by_cases s : ah b a = true
  · rw [if_pos s, core b a nb na]
    have s := (ah_val nb na).mp s
    rcases sg_cases (val b.1 - val a.1) with d | d | d
    · rcases sg_cases (val b.2 - val a.2) with d2 | d2 | d2
      · grind
      · grind
      · obtain ⟨h1, h2⟩ := t_neg (t := t) d2
        have d' : val b.1 = val a.1 := by grind
        rw [d'] at hx s ⊢
        grind
    · grind
    · obtain ⟨h1, h2⟩ := t_neg (t := t) d
      by_cases q1 : t = 0
      · subst q1; grind
      · by_cases q2 : t = 1
        · subst q2; grind
        · have k1 : t * (val b.1 - val a.1) ≠ 0 := fun e => by
            rcases Rat.mul_eq_zero.mp e with w | w
            · exact q1 w
            · grind
          have k2 : t * (val b.1 - val a.1) ≠ val b.1 - val a.1 := fun e => by
            have : (t - 1) * (val b.1 - val a.1) = 0 := by grind
            rcases Rat.mul_eq_zero.mp this with w | w
            · exact q2 (by grind)
            · grind
          have n1 : ¬ val c.1 = val b.1 := by intro e; apply k2; rw [hx] at e; grind
          have n2 : ¬ val a.1 = val c.1 := by intro e; apply k1; rw [hx] at e; grind
          have n3 : ¬ val b.1 = val c.1 := fun e => n1 e.symm
          have n4 : ¬ val c.1 = val a.1 := fun e => n2 e.symm
          simp only [n1, n2, n3, n4, false_and, or_false]
          rw [← h1, ← h2, hx]
          clear hx hy h n1 n2 n3 n4 k1 k2 s core dist
          generalize t * (val b.1 - val a.1) = m
          constructor <;> intro g <;> grind
  · rw [if_neg s, core a b na nb]
    have s := fun g => s ((ah_val nb na).mpr g)
    rcases sg_cases (val b.1 - val a.1) with d | d | d
    · rcases sg_cases (val b.2 - val a.2) with d2 | d2 | d2
      · grind
      · obtain ⟨h1, h2⟩ := t_pos (t := t) d2
        have d' : val b.1 = val a.1 := by grind
        rw [d'] at hx s ⊢
        grind
      · grind
    · obtain ⟨h1, h2⟩ := t_pos (t := t) d
      by_cases q1 : t = 0
      · subst q1; grind
      · by_cases q2 : t = 1
        · subst q2; grind
        · have k1 : t * (val b.1 - val a.1) ≠ 0 := fun e => by
            rcases Rat.mul_eq_zero.mp e with w | w
            · exact q1 w
            · grind
          have k2 : t * (val b.1 - val a.1) ≠ val b.1 - val a.1 := fun e => by
            have : (t - 1) * (val b.1 - val a.1) = 0 := by grind
            rcases Rat.mul_eq_zero.mp this with w | w
            · exact q2 (by grind)
            · grind
          have n1 : ¬ val c.1 = val b.1 := by intro e; apply k2; rw [hx] at e; grind
          have n2 : ¬ val a.1 = val c.1 := by intro e; apply k1; rw [hx] at e; grind
          have n3 : ¬ val b.1 = val c.1 := fun e => n1 e.symm
          have n4 : ¬ val c.1 = val a.1 := fun e => n2 e.symm
          simp only [n1, n2, n3, n4, false_and, or_false]
          rw [← h1, ← h2, hx]
          clear hx hy h n1 n2 n3 n4 k1 k2 s core dist
          generalize t * (val b.1 - val a.1) = m
          constructor <;> intro g <;> grind
    · grind
end K03

set_option maxHeartbeats 4000000
namespace K03
open Mi
open PySem (Str PyData)
theorem t_ex {a b c : Pt} (na : NmP a) (nb : NmP b) (ne : a ≠ b) (z : DD a b c = 0) : ∃ t, AtT t a b c := by
  unfold DD D2 at z
  by_cases d : val b.1 - val a.1 = 0
  · have d2 : val b.2 - val a.2 ≠ 0 := fun e => ne (Prod.ext (val_inj na.a nb.a (by grind)) (val_inj na.b nb.b (by grind)))
    have e : (val b.2 - val a.2) * (val c.1 - val a.1) = 0 := by rw [d] at z; grind
    have e2 : val c.1 - val a.1 = 0 := (Rat.mul_eq_zero.mp e).resolve_left d2
    refine ⟨(val c.2 - val a.2) / (val b.2 - val a.2), ?_, ?_⟩
    · rw [d]; grind
    · rw [Rat.div_mul_cancel d2]; grind
  · refine ⟨(val c.1 - val a.1) / (val b.1 - val a.1), ?_, ?_⟩
    · rw [Rat.div_mul_cancel d]; grind
    · have e : (val c.1 - val a.1) / (val b.1 - val a.1) * (val b.2 - val a.2) = val c.2 - val a.2 := by
        generalize val b.1 - val a.1 = p at *
        generalize val c.1 - val a.1 = q at *
        generalize val b.2 - val a.2 = r at *
        generalize val c.2 - val a.2 = s at *
        grind
      rw [e]; grind
theorem t_mk {t : Rat} {f : Fm} {a b c : Pt} (hf : FmOk f) (na : NmP a) (nb : NmP b) (nc : NmP c) (h : AtT t a b c) : AtT t (mk f a) (mk f b) (mk f c) := by
  obtain ⟨a1, a2⟩ := mk_val (k := 0) hf na
  obtain ⟨b1, b2⟩ := mk_val (k := 0) hf nb
  obtain ⟨c1, c2⟩ := mk_val (k := 0) hf nc
  have w1 := cast_ne (show f.w ≠ 0 by have := hf.w0; omega)
  have z1 := cast_ne (show f.z ≠ 0 by have := hf.z0; omega)
  have hx := h.x
  have hy := h.y
  refine ⟨?_, ?_⟩
  · rw [a1, b1, c1, hx, hy]; grind
  · rw [a2, b2, c2, hx, hy]; grind
theorem cr_zero {a b c : Pt} (na : NmP a) (nb : NmP b) (nc : NmP c) : (cr a b c).1 = 0 ↔ DD a b c = 0 := by
  obtain ⟨v, n⟩ := cr_val na nb nc
  have d := cast_ne n.ne
  rw [← v]
  unfold val
  constructor
  · intro h; rw [h]; grind
  · intro h
    have e : ((cr a b c).1 : Rat) = 0 := by grind
    have := Rat.intCast_inj.mp (show ((cr a b c).1 : Rat) = ((0 : Int) : Rat) by rw [e]; rfl)
    exact this
def lies (a b c : Pt) : Bool := if a = b then decide (c = a) else (decide ((cr a b c).1 = 0) && bt a b c)
theorem on_mk {f : Fm} {a b c : Pt} (hf : FmOk f) (na : NmP a) (nb : NmP b) (nc : NmP c) (ma : NmP (mk f a)) (mb : NmP (mk f b)) (mc : NmP (mk f c)) : on_ (mk f a) (mk f b) (mk f c) = lies a b c := by
  by_cases e : a = b
  · subst e
    have h1 : on_ (mk f a) (mk f a) (mk f c) = decide (mk f c = mk f a) := if_pos rfl
    have h2 : lies a a c = decide (c = a) := if_pos rfl
    rw [h1, h2, Bool.eq_iff_iff, decide_eq_true_eq, decide_eq_true_eq]
    exact ⟨mk_inj hf nc na, fun z => by rw [z]⟩
  · have e' : mk f a ≠ mk f b := fun z => e (mk_inj hf na nb z)
    have h2 : lies a b c = (decide ((cr a b c).1 = 0) && bt a b c) := if_neg e
    have sd := side_ok hf na nb nc ma mb mc
    rw [h2]
    by_cases z : (cr a b c).1 = 0
    · have t0 : tn (mk f a) (mk f b) (mk f c) = 0 := by rw [sd]; exact if_pos z
      obtain ⟨t, ht⟩ := t_ex na nb e ((cr_zero na nb nc).mp z)
      have o1 := on_t ma mb mc e' (t_mk hf na nb nc ht) t0
      have o2 := bt_t na nb nc e ht
      rw [decide_eq_true z, Bool.true_and, Bool.eq_iff_iff, o1, o2]
    · have t0 : tn (mk f a) (mk f b) (mk f c) ≠ 0 := by
        rw [sd]
        unfold due
        rw [if_neg z]
        split <;> split <;> decide
      rw [decide_eq_false z, Bool.false_and]
      unfold on_
      rw [if_neg e', if_neg t0]
end K03

set_option maxHeartbeats 4000000
namespace K03
open Mi
open PySem (Str PyData)
theorem val_nm {p q : Int × Int} (hp : Nm p) (hq : Nm q) (h : val p = val q) : p = q := val_inj hp hq h
theorem sq_nm {a b : Pt} (na : NmP a) (nb : NmP b) : Nm (sq a b) ∧ val (sq a b) = (val b.1 - val a.1) * (val b.1 - val a.1) + (val b.2 - val a.2) * (val b.2 - val a.2) := by
  have n1 := su_nm nb.a na.a
  have n2 := su_nm nb.b na.b
  refine ⟨ad_nm (ti_nm n1 n1) (ti_nm n2 n2), ?_⟩
  unfold sq
  rw [val_ad (ti_nm n1 n1) (ti_nm n2 n2), val_ti n1 n1, val_ti n2 n2, val_su nb.a na.a, val_su nb.b na.b]
theorem sq_comm {a b : Pt} (na : NmP a) (nb : NmP b) : sq b a = sq a b := by
  obtain ⟨n1, v1⟩ := sq_nm na nb
  obtain ⟨n2, v2⟩ := sq_nm nb na
  exact val_inj n2 n1 (by rw [v1, v2]; grind)
theorem zero_nm : Nm ((0, 1) : Int × Int) := ⟨by decide, by decide⟩
theorem sq_self {a : Pt} (na : NmP a) : sq a a = (0, 1) := by
  obtain ⟨n1, v1⟩ := sq_nm na na
  refine val_inj n1 zero_nm ?_
  rw [v1]
  have : val ((0, 1) : Int × Int) = 0 := by unfold val; grind
  rw [this]
  grind
/-! frames -/
abbrev m4 (f : Int × Int × Int × Int) : D := .tup [.int f.1, .int f.2.1, .int f.2.2.1, .int f.2.2.2]
structure M4 (f : Int × Int × Int × Int) : Prop where
  p : B 5 f.1
  q : B 5 f.2.1
  r : B 5 f.2.2.1
  s : B 5 f.2.2.2
  det : f.1 * f.2.2.2 - f.2.1 * f.2.2.1 ≠ 0
theorem frame_run (n : Nat) (ns : List Int) (S : Store) (c : Cur ns S) : ∃ f S', C (n + 3) 31 [.ref 0] S = .ok (.d (fm f)) S' ∧ FmOk f ∧ Cur ns S' := by
  have sm : ∀ i : Int, -16 ≤ i → i ≤ 16 → B 5 i := fun i h1 h2 => by unfold B; omega
  have d9 : cdivB 9 = true := by decide
  obtain ⟨i0, S0, e0, p0, q0, c0⟩ := draw_run (n + 1) ns S 9 c (by omega) d9
  obtain ⟨i1, S1, e1, p1, q1, c1⟩ := draw_run (n + 1) ns S0 9 c0 (by omega) d9
  obtain ⟨i2, S2, e2, p2, q2, c2⟩ := draw_run (n + 1) ns S1 9 c1 (by omega) d9
  obtain ⟨i3, S3, e3, p3, q3, c3⟩ := draw_run (n + 1) ns S2 9 c2 (by omega) d9
  obtain ⟨m, S4, e4, hm, c4⟩ := pick_run n ns S3 [m4 (1, 0, 0, 1), m4 (1, 0, 0, 1), m4 (0, 1, 1, 0), m4 (-1, 0, 0, 1), m4 (2, 1, -1, 3), m4 (1 + i0, i1, -i2, 1 + i3)] c3 (by simp) (by simp)
  obtain ⟨M, rfl, hM⟩ : ∃ M, m = m4 M ∧ M4 M := by
    simp only [List.mem_cons, List.not_mem_nil, or_false] at hm
    rcases hm with e | e | e | e | e | e
    · exact ⟨_, e, sm _ (by decide) (by decide), sm _ (by decide) (by decide), sm _ (by decide) (by decide), sm _ (by decide) (by decide), by decide⟩
    · exact ⟨_, e, sm _ (by decide) (by decide), sm _ (by decide) (by decide), sm _ (by decide) (by decide), sm _ (by decide) (by decide), by decide⟩
    · exact ⟨_, e, sm _ (by decide) (by decide), sm _ (by decide) (by decide), sm _ (by decide) (by decide), sm _ (by decide) (by decide), by decide⟩
    · exact ⟨_, e, sm _ (by decide) (by decide), sm _ (by decide) (by decide), sm _ (by decide) (by decide), sm _ (by decide) (by decide), by decide⟩
    · exact ⟨_, e, sm _ (by decide) (by decide), sm _ (by decide) (by decide), sm _ (by decide) (by decide), sm _ (by decide) (by decide), by decide⟩
    · refine ⟨_, e, sm _ (by show -16 ≤ 1 + i0; omega) (by show 1 + i0 ≤ 16; omega), sm _ (by show -16 ≤ i1; omega) (by show i1 ≤ 16; omega), sm _ (by show -16 ≤ -i2; omega) (by show -i2 ≤ 16; omega), sm _ (by show -16 ≤ 1 + i3; omega) (by show 1 + i3 ≤ 16; omega), ?_⟩
      show (1 + i0) * (1 + i3) - i1 * -i2 ≠ 0
      have h1 : 0 < (1 + i0) * (1 + i3) := Int.mul_pos (by omega) (by omega)
      have h2 : 0 ≤ i1 * i2 := Int.mul_nonneg p1 p2
      rw [Int.mul_neg]
      omega
  obtain ⟨x, S5, e5, hx, c5⟩ := pick_run n ns S4 [.int 1, .int 9, .int 1000000] c4 (by simp) (by simp)
  obtain ⟨z, rfl, z0, z1⟩ : ∃ z : Int, x = .int z ∧ 1 ≤ z ∧ z ≤ 1000000 := by
    simp only [List.mem_cons, List.not_mem_nil, or_false] at hx
    rcases hx with e | e | e
    · exact ⟨1, e, by omega, by omega⟩
    · exact ⟨9, e, by omega, by omega⟩
    · exact ⟨1000000, e, by omega, by omega⟩
  obtain ⟨j0, S6, e6, a6, b6, c6⟩ := draw_run (n + 1) ns S5 100000 c5 (by omega) (by decide)
  obtain ⟨j1, S7, e7, a7, b7, c7⟩ := draw_run (n + 1) ns S6 100000 c6 (by omega) (by decide)
  obtain ⟨y, S8, e8, hy, c8⟩ := pick_run n ns S7 [fr (1, 1), fr (1, 1), fr (7, 12), fr (1 + j0, 1 + j1)] c7 (by simp) (by simp)
  obtain ⟨w, rfl, w0, w1, w2, w3⟩ : ∃ w, y = fr w ∧ 0 < w.1 ∧ 0 < w.2 ∧ w.1 ≤ 100000 ∧ w.2 ≤ 100000 := by
    simp only [List.mem_cons, List.not_mem_nil, or_false] at hy
    rcases hy with e | e | e | e
    · exact ⟨(1, 1), e, by decide, by decide, by decide, by decide⟩
    · exact ⟨(1, 1), e, by decide, by decide, by decide, by decide⟩
    · exact ⟨(7, 12), e, by decide, by decide, by decide, by decide⟩
    · exact ⟨(1 + j0, 1 + j1), e, by show 0 < 1 + j0; omega, by show 0 < 1 + j1; omega, by show 1 + j0 ≤ 100000; omega, by show 1 + j1 ≤ 100000; omega⟩
  have cz : cmulB 2 z = true := cmul_ok (k := 2) (l := 20) (by unfold B; decide) (by unfold B; omega) (by omega)
  have hz : cdivB (2 * z + 1) = true := cdiv_ok (k := 22) (by unfold B; omega) (by omega) (by omega)
  obtain ⟨k0, S9, e9, a9, b9, c9⟩ := draw_run (n + 1) ns S8 (2 * z + 1) c8 (by omega) hz
  obtain ⟨k1, S10, e10, a10, b10, c10⟩ := draw_run (n + 1) ns S9 (2 * z + 1) c9 (by omega) hz
  refine ⟨⟨M.1, M.2.1, M.2.2.1, M.2.2.2, k0 - z, k1 - z, w.1, w.2⟩, S10, ?_, ⟨hM.p.mono (by omega), hM.q.mono (by omega), hM.r.mono (by omega), hM.s.mono (by omega), by show B 21 (k0 - z); unfold B; omega, by show B 21 (k1 - z); unfold B; omega, by show B 21 w.1; unfold B; omega, by show B 21 w.2; unfold B; omega, w0, w1, hM.det⟩, c10⟩
  have p5 : cpowB 10 5 = true := by decide
  have p6 : cpowB 10 6 = true := by decide
  have y2 : 2 ≤ PySem.sizeLine := by decide
  have y3 : 3 ≤ PySem.sizeLine := by decide
  have y4 : 4 ≤ PySem.sizeLine := by decide
  have y6 : 6 ≤ PySem.sizeLine := by decide
  have y8 : 8 ≤ PySem.sizeLine := by decide
  rw [call_at (fd := ⟨1, 6, b31⟩) rfl, r_run _ _ _ _ _ _ rfl]
  obtain ⟨_, _, _, rfl, _⟩ := c10.ex
  obtain ⟨_, _, _, rfl, _⟩ := c.ex
  have bc : ∀ xs ys : List D, binD .Add (.tup xs) (.tup ys) = if xs.length + ys.length ≤ PySem.sizeLine then some (.d (.tup (xs ++ ys))) else none := fun _ _ => rfl
  simp [b31, e_kN, e_kB, e_kI, e_kS, e_var, e_glb, e_fnv, e_typ, e_neg, e_bin, e_cmp, e_chn, e_and, e_or, e_not, e_ife, e_tup, e_lst, e_ix, e_slc, e_call, e_bi, e_mt, e_lc, e_dc, t_and, t_or, t_not, t_var, t_cmp, t_chn, t_call, t_bi, t_ix, i_var, i_call, i_bi, i_rng, i_zip, ss_nil, ss_cons, so_none, so_some, ea_nil, ea_cons, an_1, an_2, or_1, or_2, tan_1, tan_2, tor_1, tor_2, tal_0, tal_1, ep_0, ep_1, st_, st2_, tu_nil, tu_c, w_0, w_s, ca_ok, at1, at2_0, at2_1, at4_0, at4_1, at4_2, at4_3, bo_nil, bo_c, io_nil, io_c, is_int, is_intb, is_tup, g_0, g_s, p_d, p_own, p_ref, d_d, d_own, a_d, a_own, a_ref, c_lst, c_dct, pk_nil, pk_cons, sa_nil, sa_cons, ao_nil, ao_cons, b_add, b_sub, b_mul, b_div, b_mod, b_pow, b_cat, n_int, n_bl, cv, c_eq, c_ne, c_lt, c_le, c_gt, c_ge, c_in, c_notIn, eq_int, x_lst, x_tup, x_dct, tr_bl, tr_int, bi_len, bi_lent, bi_abs, bi_int, bi_all, bi_list, bi_listk, bi_listt, bi_tuple, bi_tuplet, io_lst, io_klst, io_tup, k_nil, k_cons, k_asg, k_asgS, k_asgN, k_setix, k_ex, k_ret, k_retN, k_iff, k_whl, k_for, k_brk, k_cont, lo_nil, lo_cons, li_some, as_nm, as_tup, as_0, as_s, f_rt, f_own, f_nx, R.bind_ok, R.of_some, Option.bind_some, Option.map_some, List.length_cons, List.length_nil, List.set_cons_zero, List.set_cons_succ, List.map_cons, List.map_nil, List.replicate, List.cons_append, List.nil_append, if_true, if_false, Bool.false_eq_true, e0, e1, e2, e3, e4, e5, e6, e7, e8, e9, e10, p5, p6, cz, bc, y2, y3, y4, y6, y8]
end K03

set_option maxHeartbeats 4000000
namespace K03
open Mi
open PySem (Str PyData)
theorem at_DD {t : Rat} {a b c : Pt} (h : AtT t a b c) : DD a b c = 0 := by
  unfold DD D2
  rw [h.x, h.y]
  grind
theorem on_iff {a b c : Pt} (na : NmP a) (nb : NmP b) (nc : NmP c) (ne : a ≠ b) : on_ a b c = true ↔ ∃ t, AtT t a b c ∧ 0 ≤ t ∧ t ≤ 1 := by
  constructor
  · intro h
    have z : tn a b c = 0 := by
      unfold on_ at h
      rw [if_neg ne] at h
      split at h
      · assumption
      · cases h
    obtain ⟨t, ht⟩ := t_ex (c := c) na nb ne ((tn_val na nb nc).1.mp z)
    exact ⟨t, ht, (on_t na nb nc ne ht z).mp h⟩
  · rintro ⟨t, ht, h⟩
    exact (on_t na nb nc ne ht ((tn_val na nb nc).1.mpr (at_DD ht))).mpr h
theorem at_swap {t : Rat} {a b c : Pt} (h : AtT t a b c) : AtT (1 - t) b a c := by
  refine ⟨?_, ?_⟩
  · rw [h.x]; grind
  · rw [h.y]; grind
theorem on_swap {a b c : Pt} (na : NmP a) (nb : NmP b) (nc : NmP c) : on_ b a c = on_ a b c := by
  by_cases e : a = b
  · subst e; rfl
  · rw [Bool.eq_iff_iff, on_iff nb na nc (Ne.symm e), on_iff na nb nc e]
    constructor
    · rintro ⟨t, h, h0, h1⟩; exact ⟨1 - t, at_swap h, by grind, by grind⟩
    · rintro ⟨t, h, h0, h1⟩; exact ⟨1 - t, at_swap h, by grind, by grind⟩
theorem on_end1 {a b : Pt} (na : NmP a) (nb : NmP b) : on_ a b a = true := by
  by_cases e : a = b
  · unfold on_; rw [if_pos e]; exact decide_eq_true rfl
  · exact (on_iff na nb na e).mpr ⟨0, ⟨by grind, by grind⟩, by grind, by grind⟩
theorem on_end2 {a b : Pt} (na : NmP a) (nb : NmP b) : on_ a b b = true := by rw [← on_swap na nb nb]; exact on_end1 nb na
/-! any rational number is a fraction -/
def ofR (r : Rat) : Int × Int := (r.num, (r.den : Int))
theorem ofR_nm (r : Rat) : Nm (ofR r) := ⟨by have := r.den_pos; show 0 < (r.den : Int); omega, by show Nat.gcd r.num.natAbs (r.den : Int).natAbs = 1; exact r.reduced⟩
theorem ofR_val (r : Rat) : val (ofR r) = r := by
  show (r.num : Rat) / ((r.den : Int) : Rat) = r
  rw [← Rat.divInt_eq_div]
  exact Rat.num_divInt_den r
def ptT (a b : Pt) (t : Rat) : Pt := (ofR (val a.1 + t * (val b.1 - val a.1)), ofR (val a.2 + t * (val b.2 - val a.2)))
theorem ptT_nm (a b : Pt) (t : Rat) : NmP (ptT a b t) := ⟨ofR_nm _, ofR_nm _⟩
theorem ptT_at (a b : Pt) (t : Rat) : AtT t a b (ptT a b t) := ⟨ofR_val _, ofR_val _⟩
theorem at_same {t : Rat} {a b x y : Pt} (nx : NmP x) (ny : NmP y) (h : AtT t a b x) (h' : AtT t a b y) : x = y := Prod.ext (val_inj nx.a ny.a (by rw [h.x, h'.x])) (val_inj nx.b ny.b (by rw [h.y, h'.y]))
/-! the order of points -/
theorem ah_irr {a : Pt} (na : NmP a) : ah a a = false := by
  cases h : ah a a with
  | false => rfl
  | true => have := (ah_val na na).mp h; grind
theorem ah_asym {a b : Pt} (na : NmP a) (nb : NmP b) (h : ah a b = true) : ah b a = false := by
  cases h' : ah b a with
  | false => rfl
  | true => have := (ah_val na nb).mp h; have := (ah_val nb na).mp h'; grind
theorem ah_le {a b : Pt} (na : NmP a) (nb : NmP b) : ah b a = false ↔ val a.1 < val b.1 ∨ (val a.1 = val b.1 ∧ val a.2 ≤ val b.2) := by
  rw [← Bool.not_eq_true, ah_val nb na]
  constructor <;> intro h <;> grind
theorem ah_tri {a b : Pt} (na : NmP a) (nb : NmP b) (h : ah a b = false) (h' : ah b a = false) : a = b := by
  have h1 := (ah_le nb na).mp h
  have h2 := (ah_le na nb).mp h'
  exact Prod.ext (val_inj na.a nb.a (by grind)) (val_inj na.b nb.b (by grind))
theorem le_trans {a b c : Pt} (na : NmP a) (nb : NmP b) (nc : NmP c) (h : ah b a = false) (h' : ah c b = false) : ah c a = false := by
  have h1 := (ah_le na nb).mp h
  have h2 := (ah_le nb nc).mp h'
  rw [ah_le na nc]
  grind
theorem ah_ne {a b : Pt} (na : NmP a) (h : ah a b = true) : a ≠ b := fun e => by rw [← e, ah_irr na] at h; cases h
theorem ah_of {a b : Pt} (na : NmP a) (nb : NmP b) (ne : a ≠ b) (h : ah b a = false) : ah a b = true := by
  cases q : ah a b with
  | true => rfl
  | false => exact absurd (ah_tri na nb q h) ne
theorem on_al {p q x : Pt} (np : NmP p) (nq : NmP q) (nx : NmP x) (h : ah p q = true) : on_ p q x = true ↔ DD p q x = 0 ∧ ah x p = false ∧ ah q x = false := by
  have e : ri p q = (p, q) := if_neg (by rw [ah_asym np nq h]; simp)
  unfold on_
  rw [if_neg (ah_ne np h), e, ← (tn_val np nq nx).1]
  by_cases z : tn p q x = 0
  · rw [if_pos z, Bool.and_eq_true, Bool.not_eq_true', Bool.not_eq_true']
    exact ⟨fun g => ⟨z, g⟩, fun g => g.2⟩
  · rw [if_neg z]
    exact ⟨fun g => (by cases g), fun g => absurd g.1 z⟩
/-! what two segments have in common -/
inductive Mt where
  | no
  | pt1 (p : Pt)
  | seg (p q : Pt)
def Co (a b c d x : Pt) : Prop := on_ a b x = true ∧ on_ c d x = true
def Sp (a b c d : Pt) : Mt → Prop
  | .no => ∀ x, NmP x → ¬ Co a b c d x
  | .pt1 p => NmP p ∧ Co a b c d p ∧ ∀ x, NmP x → Co a b c d x → x = p
  | .seg p q => NmP p ∧ NmP q ∧ ah p q = true ∧ ∀ x, NmP x → (Co a b c d x ↔ on_ p q x = true)
theorem al_ends {p q p' q' : Pt} (np : NmP p) (nq : NmP q) (np' : NmP p') (nq' : NmP q') (h : ah p q = true) (h' : ah p' q' = true) (e : ∀ x, NmP x → (on_ p q x = true ↔ on_ p' q' x = true)) : p = p' ∧ q = q' := by
  have h1 := (on_al np' nq' np h').mp ((e p np).mp (on_end1 np nq))
  have h2 := (on_al np' nq' nq h').mp ((e q nq).mp (on_end2 np nq))
  have h3 := (on_al np nq np' h).mp ((e p' np').mpr (on_end1 np' nq'))
  have h4 := (on_al np nq nq' h).mp ((e q' nq').mpr (on_end2 np' nq'))
  exact ⟨ah_tri np np' h1.2.1 h3.2.1, ah_tri nq nq' h4.2.2 h2.2.2⟩
theorem sp_one {a b c d : Pt} {r r' : Mt} (h : Sp a b c d r) (h' : Sp a b c d r') : r = r' := by
  cases r with
  | no =>
    cases r' with
    | no => rfl
    | pt1 p => exact absurd h'.2.1 (h p h'.1)
    | seg p q => exact absurd ((h'.2.2.2 p h'.1).mpr (on_end1 h'.1 h'.2.1)) (h p h'.1)
  | pt1 p =>
    cases r' with
    | no => exact absurd h.2.1 (h' p h.1)
    | pt1 q => rw [h'.2.2 p h.1 h.2.1]
    | seg x y =>
      have e1 := h.2.2 x h'.1 ((h'.2.2.2 x h'.1).mpr (on_end1 h'.1 h'.2.1))
      have e2 := h.2.2 y h'.2.1 ((h'.2.2.2 y h'.2.1).mpr (on_end2 h'.1 h'.2.1))
      exact absurd (e1.trans e2.symm) (ah_ne h'.1 h'.2.2.1)
  | seg p q =>
    cases r' with
    | no => exact absurd ((h.2.2.2 p h.1).mpr (on_end1 h.1 h.2.1)) (h' p h.1)
    | pt1 x =>
      have e1 := h'.2.2 p h.1 ((h.2.2.2 p h.1).mpr (on_end1 h.1 h.2.1))
      have e2 := h'.2.2 q h.2.1 ((h.2.2.2 q h.2.1).mpr (on_end2 h.1 h.2.1))
      exact absurd (e1.trans e2.symm) (ah_ne h.1 h.2.2.1)
    | seg p' q' =>
      obtain ⟨e1, e2⟩ := al_ends h.1 h.2.1 h'.1 h'.2.1 h.2.2.1 h'.2.2.1 fun x nx => (h.2.2.2 x nx).symm.trans (h'.2.2.2 x nx)
      rw [e1, e2]
theorem sp_congr {a b c d a' b' c' d' : Pt} (e : ∀ x, NmP x → (Co a b c d x ↔ Co a' b' c' d' x)) : ∀ {r : Mt}, Sp a b c d r → Sp a' b' c' d' r
  | .no, h => fun x nx z => h x nx ((e x nx).mpr z)
  | .pt1 p, h => ⟨h.1, (e p h.1).mp h.2.1, fun x nx z => h.2.2 x nx ((e x nx).mpr z)⟩
  | .seg p q, h => ⟨h.1, h.2.1, h.2.2.1, fun x nx => (e x nx).symm.trans (h.2.2.2 x nx)⟩
theorem sp_ab {a b c d : Pt} (na : NmP a) (nb : NmP b) {r : Mt} (h : Sp a b c d r) : Sp b a c d r := sp_congr (fun x nx => by unfold Co; rw [on_swap na nb nx]) h
theorem sp_cd {a b c d : Pt} (nc : NmP c) (nd : NmP d) {r : Mt} (h : Sp a b c d r) : Sp a b d c r := sp_congr (fun x nx => by unfold Co; rw [on_swap nc nd nx]) h
theorem sp_two {a b c d : Pt} {r : Mt} (h : Sp a b c d r) : Sp c d a b r := sp_congr (fun x nx => and_comm) h
end K03

set_option maxHeartbeats 4000000
namespace K03
open Mi
open PySem (Str PyData)
/-! two segments of one line -/
/-- what lies on a line by two of its points -/
theorem line_same {a b p q x : Pt} (na : NmP a) (nb : NmP b) (np : NmP p) (nq : NmP q) (nx : NmP x) (ne : a ≠ b) (ne2 : p ≠ q) (hp : DD a b p = 0) (hq : DD a b q = 0) : DD p q x = 0 ↔ DD a b x = 0 := by
  obtain ⟨t, ht⟩ := t_ex (c := p) na nb ne hp
  obtain ⟨s, hs⟩ := t_ex (c := q) na nb ne hq
  have d : s - t ≠ 0 := fun e => by
    have e2 : s = t := by grind
    rw [e2] at hs
    exact ne2 (at_same np nq ht hs)
  have e : DD p q x = (s - t) * DD a b x := by
    unfold DD D2
    rw [ht.x, ht.y, hs.x, hs.y]
    grind
  rw [e]
  constructor
  · intro h; exact (Rat.mul_eq_zero.mp h).resolve_left d
  · intro h; rw [h]; grind
def alin (a b c d : Pt) : Mt :=
  if (if ah (ri c d).1 (ri a b).1 then (ri a b).1 else (ri c d).1) = (if ah (ri a b).2 (ri c d).2 then (ri a b).2 else (ri c d).2) then .pt1 (if ah (ri c d).1 (ri a b).1 then (ri a b).1 else (ri c d).1)
  else if ah (if ah (ri c d).1 (ri a b).1 then (ri a b).1 else (ri c d).1) (if ah (ri a b).2 (ri c d).2 then (ri a b).2 else (ri c d).2) then .seg (if ah (ri c d).1 (ri a b).1 then (ri a b).1 else (ri c d).1) (if ah (ri a b).2 (ri c d).2 then (ri a b).2 else (ri c d).2)
  else .no
structure Ri (a b l h : Pt) : Prop where
  nl : NmP l
  nh : NmP h
  lt : ah l h = true
  zl : DD a b l = 0
  zh : DD a b h = 0
  on : ∀ x, NmP x → (on_ a b x = true ↔ DD a b x = 0 ∧ ah x l = false ∧ ah h x = false)
theorem ri_ok {a b : Pt} (na : NmP a) (nb : NmP b) (ne : a ≠ b) : Ri a b (ri a b).1 (ri a b).2 := by
  have z1 : DD a b a = 0 := by unfold DD D2; grind
  have z2 : DD a b b = 0 := by unfold DD D2; grind
  have on : ∀ x, NmP x → (on_ a b x = true ↔ DD a b x = 0 ∧ ah x (ri a b).1 = false ∧ ah (ri a b).2 x = false) := fun x nx => by
    unfold on_
    rw [if_neg ne, ← (tn_val na nb nx).1]
    by_cases z : tn a b x = 0
    · rw [if_pos z, Bool.and_eq_true, Bool.not_eq_true', Bool.not_eq_true']
      exact ⟨fun g => ⟨z, g⟩, fun g => g.2⟩
    · rw [if_neg z]
      exact ⟨fun g => (by cases g), fun g => absurd g.1 z⟩
  by_cases h : ah b a = true
  · have e : ri a b = (b, a) := if_pos h
    rw [e] at on ⊢
    exact ⟨nb, na, h, z2, z1, on⟩
  · have h' : ah b a = false := by simpa using h
    have e : ri a b = (a, b) := if_neg h
    rw [e] at on ⊢
    exact ⟨na, nb, ah_of na nb ne h', z1, z2, on⟩
theorem alin_ok {a b c d l1 h1 l2 h2 f l : Pt} (R1 : Ri a b l1 h1) (R2 : Ri c d l2 h2) (L : ∀ x, NmP x → (DD c d x = 0 ↔ DD a b x = 0)) (LF : ∀ x y z, NmP x → NmP y → NmP z → x ≠ y → DD a b x = 0 → DD a b y = 0 → (DD x y z = 0 ↔ DD a b z = 0))
    (hf : f = if ah l2 l1 then l1 else l2) (hl : l = if ah h1 h2 then h1 else h2) : Sp a b c d (if f = l then .pt1 f else if ah f l then .seg f l else .no) := by
  have nf : NmP f := by rw [hf]; split; exact R1.nl; exact R2.nl
  have nl : NmP l := by rw [hl]; split; exact R1.nh; exact R2.nh
  have zf : DD a b f = 0 := by rw [hf]; split; exact R1.zl; exact (L _ R2.nl).mp R2.zl
  have zl : DD a b l = 0 := by rw [hl]; split; exact R1.zh; exact (L _ R2.nh).mp R2.zh
  -- f is the greater of the begins, l the lesser of the ends
  have f1 : ah f l1 = false := by
    rw [hf]; split
    · exact ah_irr R1.nl
    · next h => simpa using h
  have f2 : ah f l2 = false := by
    rw [hf]; split
    · next h => exact ah_asym R2.nl R1.nl h
    · exact ah_irr R2.nl
  have e1 : ah h1 l = false := by
    rw [hl]; split
    · exact ah_irr R1.nh
    · next h => simpa using h
  have e2 : ah h2 l = false := by
    rw [hl]; split
    · next h => exact ah_asym R1.nh R2.nh h
    · exact ah_irr R2.nh
  have co : ∀ x, NmP x → (Co a b c d x ↔ DD a b x = 0 ∧ ah x f = false ∧ ah l x = false) := fun x nx => by
    unfold Co
    rw [R1.on x nx, R2.on x nx, L x nx]
    constructor
    · rintro ⟨⟨z, g1, g2⟩, ⟨_, g3, g4⟩⟩
      refine ⟨z, ?_, ?_⟩
      · rw [hf]; split; exact g1; exact g3
      · rw [hl]; split; exact g2; exact g4
    · rintro ⟨z, g1, g2⟩
      exact ⟨⟨z, le_trans R1.nl nf nx f1 g1, le_trans nx nl R1.nh g2 e1⟩, ⟨z, le_trans R2.nl nf nx f2 g1, le_trans nx nl R2.nh g2 e2⟩⟩
  by_cases q : f = l
  · rw [if_pos q]
    subst q
    refine ⟨nf, (co f nf).mpr ⟨zf, ah_irr nf, ah_irr nf⟩, fun x nx g => ?_⟩
    obtain ⟨_, g1, g2⟩ := (co x nx).mp g
    exact ah_tri nx nf g1 g2
  · rw [if_neg q]
    by_cases w : ah f l = true
    · rw [if_pos w]
      refine ⟨nf, nl, w, fun x nx => ?_⟩
      rw [co x nx, on_al nf nl nx w, LF f l x nf nl nx q zf zl]
    · rw [if_neg w]
      intro x nx g
      obtain ⟨_, g1, g2⟩ := (co x nx).mp g
      have w' : ah f l = false := by simpa using w
      exact q (ah_tri nf nl w' (le_trans nf nx nl g1 g2))
theorem alin_sp {a b c d : Pt} (na : NmP a) (nb : NmP b) (nc : NmP c) (nd : NmP d) (ne : a ≠ b) (ne2 : c ≠ d) (hc : DD a b c = 0) (hd : DD a b d = 0) : Sp a b c d (alin a b c d) :=
  alin_ok (ri_ok na nb ne) (ri_ok nc nd ne2) (fun x nx => line_same na nb nc nd nx ne ne2 hc hd) (fun x y z nx ny nz ne3 hx hy => line_same na nb nx ny nz ne ne3 hx hy) rfl rfl
/-! two lines that cross -/
section
variable {a b c d : Pt} (na : NmP a) (nb : NmP b) (nc : NmP c) (nd : NmP d) (ne : a ≠ b) (ne2 : c ≠ d)
theorem w_same : DD c d a - DD c d b = DD a b d - DD a b c := by unfold DD D2; grind
theorem in_t {t : Rat} {x : Pt} (h : AtT t a b x) (h2 : DD c d x = 0) : t * (DD c d a - DD c d b) = DD c d a := by
  unfold DD D2 at *
  rw [h.x, h.y] at h2
  grind
theorem in_s {s : Rat} {x : Pt} (h : AtT s c d x) (h2 : DD a b x = 0) : s * (DD a b c - DD a b d) = DD a b c := in_t h h2
theorem cross_at {t : Rat} (hW : DD c d a - DD c d b ≠ 0) (ht : t * (DD c d a - DD c d b) = DD c d a) {x : Pt} (h : AtT t a b x) : AtT (DD a b c / (DD a b c - DD a b d)) c d x := by
  have e := w_same (a := a) (b := b) (c := c) (d := d)
  have hW2 : DD a b c - DD a b d ≠ 0 := fun z => hW (by grind)
  have hs := Rat.div_mul_cancel (a := DD a b c) hW2
  generalize hr : DD a b c / (DD a b c - DD a b d) = s at *
  clear hr
  refine ⟨?_, ?_⟩
  · rw [h.x]
    have k : (DD c d a - DD c d b) * (val a.1 + t * (val b.1 - val a.1) - (val c.1 + s * (val d.1 - val c.1))) = 0 := by
      unfold DD D2 at *
      grind
    have := (Rat.mul_eq_zero.mp k).resolve_left hW
    grind
  · rw [h.y]
    have k : (DD c d a - DD c d b) * (val a.2 + t * (val b.2 - val a.2) - (val c.2 + s * (val d.2 - val c.2))) = 0 := by
      unfold DD D2 at *
      grind
    have := (Rat.mul_eq_zero.mp k).resolve_left hW
    grind
/-- between 0 and 1 -/
theorem part_in {u v : Rat} (h : u - v ≠ 0) : (0 ≤ u / (u - v) ∧ u / (u - v) ≤ 1) ↔ u * v ≤ 0 := by
  have e := Rat.div_mul_cancel (a := u) h
  generalize u / (u - v) = r at *
  have sq : 0 < (u - v) * (u - v) := by
    rcases sg_cases (u - v) with z | z | z
    · exact absurd z h
    · exact Rat.mul_pos z z
    · have := Rat.mul_pos (a := -(u - v)) (b := -(u - v)) (by grind) (by grind); grind
  have uv : u * v = (r * (r - 1)) * ((u - v) * (u - v)) := by grind
  constructor
  · rintro ⟨h1, h2⟩
    have := Rat.mul_nonneg (Rat.mul_nonneg (a := r) (b := 1 - r) h1 (by grind)) (Rat.le_of_lt sq)
    grind
  · intro g
    rcases sg_cases r with z | z | z
    · grind
    · refine ⟨by grind, ?_⟩
      rcases sg_cases (r - 1) with y | y | y
      · grind
      · have := Rat.mul_pos (Rat.mul_pos z y) sq; grind
      · grind
    · have := Rat.mul_pos (Rat.mul_pos (a := -r) (b := 1 - r) (by grind) (by grind)) sq; grind
include na nb nc nd ne ne2
theorem sp_par (hW : DD c d a - DD c d b = 0) (hX : DD a b c ≠ 0) : Sp a b c d .no := by
  intro x nx ⟨h1, h2⟩
  obtain ⟨t, ht, _⟩ := (on_iff na nb nx ne).mp h1
  obtain ⟨s, hs, _⟩ := (on_iff nc nd nx ne2).mp h2
  have q := in_s hs (at_DD ht)
  have e := w_same (a := a) (b := b) (c := c) (d := d)
  have z : DD a b c - DD a b d = 0 := by grind
  rw [z] at q
  exact hX (by grind)
theorem sp_at {x : Pt} (nx : NmP x) (hW : DD c d a - DD c d b ≠ 0) (ht : AtT (DD c d a / (DD c d a - DD c d b)) a b x) (g1 : DD c d a * DD c d b ≤ 0) (g2 : DD a b c * DD a b d ≤ 0) : Sp a b c d (.pt1 x) := by
  have e := w_same (a := a) (b := b) (c := c) (d := d)
  have hW2 : DD a b c - DD a b d ≠ 0 := fun z => hW (by grind)
  have k := Rat.div_mul_cancel (a := DD c d a) hW
  have hs := cross_at hW k ht
  obtain ⟨t0, t1⟩ := (part_in hW).mpr g1
  obtain ⟨s0, s1⟩ := (part_in hW2).mpr g2
  refine ⟨nx, ⟨(on_iff na nb nx ne).mpr ⟨_, ht, t0, t1⟩, (on_iff nc nd nx ne2).mpr ⟨_, hs, s0, s1⟩⟩, fun y ny ⟨h1, h2⟩ => ?_⟩
  obtain ⟨t, ht', _⟩ := (on_iff na nb ny ne).mp h1
  obtain ⟨s, hs', _⟩ := (on_iff nc nd ny ne2).mp h2
  have q := in_t ht' (at_DD hs')
  have et : t = DD c d a / (DD c d a - DD c d b) := by
    have : (t - DD c d a / (DD c d a - DD c d b)) * (DD c d a - DD c d b) = 0 := by
      generalize DD c d a / (DD c d a - DD c d b) = r at *
      grind
    have := (Rat.mul_eq_zero.mp this).resolve_right hW
    grind
  rw [et] at ht'
  exact at_same ny nx ht' ht
theorem sp_no1 (hW : DD c d a - DD c d b ≠ 0) (g : ¬ DD c d a * DD c d b ≤ 0) : Sp a b c d .no := by
  intro x nx ⟨h1, h2⟩
  obtain ⟨t, ht, t0, t1⟩ := (on_iff na nb nx ne).mp h1
  obtain ⟨s, hs, _⟩ := (on_iff nc nd nx ne2).mp h2
  have q := in_t ht (at_DD hs)
  have k := Rat.div_mul_cancel (a := DD c d a) hW
  have et : t = DD c d a / (DD c d a - DD c d b) := by
    have : (t - DD c d a / (DD c d a - DD c d b)) * (DD c d a - DD c d b) = 0 := by
      generalize DD c d a / (DD c d a - DD c d b) = r at *
      grind
    have := (Rat.mul_eq_zero.mp this).resolve_right hW
    grind
  rw [et] at t0 t1
  exact g ((part_in hW).mp ⟨t0, t1⟩)
end
theorem sp_no2 {a b c d : Pt} (na : NmP a) (nb : NmP b) (nc : NmP c) (nd : NmP d) (ne : a ≠ b) (ne2 : c ≠ d) (hW : DD c d a - DD c d b ≠ 0) (g : ¬ DD a b c * DD a b d ≤ 0) : Sp a b c d .no := by
  have e := w_same (a := a) (b := b) (c := c) (d := d)
  exact sp_two (sp_no1 nc nd na nb ne2 ne (by grind) g)
end K03

set_option maxHeartbeats 4000000
namespace K03
open Mi
open PySem (Str PyData)
def cr4 (a b c d : Pt) : Int × Int := su (ti (su b.1 a.1) (su d.2 c.2)) (ti (su b.2 a.2) (su d.1 c.1))
theorem cr4_nm {a b c d : Pt} (na : NmP a) (nb : NmP b) (nc : NmP c) (nd : NmP d) : Nm (cr4 a b c d) := su_nm (ti_nm (su_nm nb.a na.a) (su_nm nd.b nc.b)) (ti_nm (su_nm nb.b na.b) (su_nm nd.a nc.a))
theorem cr4_val {a b c d : Pt} (na : NmP a) (nb : NmP b) (nc : NmP c) (nd : NmP d) : val (cr4 a b c d) = (val b.1 - val a.1) * (val d.2 - val c.2) - (val b.2 - val a.2) * (val d.1 - val c.1) := by
  unfold cr4
  rw [val_su (ti_nm (su_nm nb.a na.a) (su_nm nd.b nc.b)) (ti_nm (su_nm nb.b na.b) (su_nm nd.a nc.a)), val_ti (su_nm nb.a na.a) (su_nm nd.b nc.b), val_ti (su_nm nb.b na.b) (su_nm nd.a nc.a), val_su nb.a na.a, val_su nd.b nc.b, val_su nb.b na.b, val_su nd.a nc.a]
theorem cr4_B {k : Nat} {a b c d : Pt} (ha : BP k a) (hb : BP k b) (hc : BP k c) (hd : BP k d) : Bp (8 * k + 5) (cr4 a b c d) := (su_B2 (ti_B2 (su_B2 hb.a ha.a) (su_B2 hd.b hc.b)) (ti_B2 (su_B2 hb.b ha.b) (su_B2 hd.a hc.a))).mono (by omega)
theorem cr4_run (n : Nat) (a b c d : Pt) (S : Store) {k : Nat} (hk : k ≤ 400) (ha : BP k a) (hb : BP k b) (hc : BP k c) (hd : BP k d) (na : NmP a) (nb : NmP b) (nc : NmP c) (nd : NmP d) : C (n + 4) 15 [.d (pt a), .d (pt b), .d (pt c), .d (pt d)] S = .ok (.d (fr (cr4 a b c d))) S := by
  have e1 := minus_in n b.1 a.1 S (k := k) (by omega) hb.a ha.a nb.a na.a
  have e2 := minus_in n d.2 c.2 S (k := k) (by omega) hd.b hc.b nd.b nc.b
  have e3 := minus_in n b.2 a.2 S (k := k) (by omega) hb.b ha.b nb.b na.b
  have e4 := minus_in n d.1 c.1 S (k := k) (by omega) hd.a hc.a nd.a nc.a
  have B1 := su_B2 hb.a ha.a
  have B2 := su_B2 hd.b hc.b
  have B3 := su_B2 hb.b ha.b
  have B4 := su_B2 hd.a hc.a
  have n1 := su_nm nb.a na.a
  have n2 := su_nm nd.b nc.b
  have n3 := su_nm nb.b na.b
  have n4 := su_nm nd.a nc.a
  have e5 := times_in n _ _ S (k := k + k + 1) (by omega) B1 B2 n1 n2
  have e6 := times_in n _ _ S (k := k + k + 1) (by omega) B3 B4 n3 n4
  have e7 := minus_in n _ _ S (k := k + k + 1 + (k + k + 1)) (by omega) (ti_B2 B1 B2) (ti_B2 B3 B4) (ti_nm n1 n2) (ti_nm n3 n4)
  rw [call_at (fd := ⟨4, 5, b15⟩) rfl, r_run _ _ _ _ _ _ rfl]
  simp [b15, e_kN, e_kB, e_kI, e_kS, e_var, e_glb, e_fnv, e_typ, e_neg, e_bin, e_cmp, e_chn, e_and, e_or, e_not, e_ife, e_tup, e_lst, e_ix, e_slc, e_call, e_bi, e_mt, e_lc, e_dc, t_and, t_or, t_not, t_var, t_cmp, t_chn, t_call, t_bi, t_ix, i_var, i_call, i_bi, i_rng, i_zip, ss_nil, ss_cons, so_none, so_some, ea_nil, ea_cons, an_1, an_2, or_1, or_2, tan_1, tan_2, tor_1, tor_2, tal_0, tal_1, ep_0, ep_1, st_, st2_, tu_nil, tu_c, w_0, w_s, ca_ok, at1, at2_0, at2_1, at4_0, at4_1, at4_2, at4_3, bo_nil, bo_c, io_nil, io_c, is_int, is_intb, is_tup, g_0, g_s, p_d, p_own, p_ref, d_d, d_own, a_d, a_own, a_ref, c_lst, c_dct, pk_nil, pk_cons, sa_nil, sa_cons, ao_nil, ao_cons, b_add, b_sub, b_mul, b_div, b_mod, b_pow, b_cat, n_int, n_bl, cv, c_eq, c_ne, c_lt, c_le, c_gt, c_ge, c_in, c_notIn, eq_int, x_lst, x_tup, x_dct, tr_bl, tr_int, bi_len, bi_lent, bi_abs, bi_int, bi_all, bi_list, bi_listk, bi_listt, bi_tuple, bi_tuplet, io_lst, io_klst, io_tup, k_nil, k_cons, k_asg, k_asgS, k_asgN, k_setix, k_ex, k_ret, k_retN, k_iff, k_whl, k_for, k_brk, k_cont, lo_nil, lo_cons, li_some, as_nm, as_tup, as_0, as_s, f_rt, f_own, f_nx, R.bind_ok, R.of_some, Option.bind_some, Option.map_some, List.length_cons, List.length_nil, List.set_cons_zero, List.set_cons_succ, List.map_cons, List.map_nil, List.replicate, List.cons_append, List.nil_append, if_true, if_false, Bool.false_eq_true, e1, e2, e3, e4, e5, e6, e7, cr4]
def Mt.d : Mt → D
  | .no => .non
  | .pt1 p => .tup [.str "at", pt p]
  | .seg p q => .tup [.str "along", pt p, pt q]
def tch (a b c d p : Pt) : Mt := if (on_ a b p && on_ c d p) = true then .pt1 p else .no
theorem tch_run (n : Nat) (a b c d p : Pt) (S : Store) {k : Nat} (hk : k ≤ 400) (ha : BP k a) (hb : BP k b) (hc : BP k c) (hd : BP k d) (hp : BP k p) : C (n + 5) 19 [.d (pt a), .d (pt b), .d (pt c), .d (pt d), .d (pt p)] S = .ok (.d (tch a b c d p).d) S := by
  have e1 := onin_run n a b p S (k := k) (by omega) ha hb hp
  have e2 := onin_run n c d p S (k := k) (by omega) hc hd hp
  have y2 : 2 ≤ PySem.sizeLine := by decide
  rw [call_at (fd := ⟨5, 5, b19⟩) rfl, r_run _ _ _ _ _ _ rfl]
  unfold tch
  cases q1 : on_ a b p <;> cases q2 : on_ c d p <;> rw [q1] at e1 <;> rw [q2] at e2 <;> simp [b19, e_kN, e_kB, e_kI, e_kS, e_var, e_glb, e_fnv, e_typ, e_neg, e_bin, e_cmp, e_chn, e_and, e_or, e_not, e_ife, e_tup, e_lst, e_ix, e_slc, e_call, e_bi, e_mt, e_lc, e_dc, t_and, t_or, t_not, t_var, t_cmp, t_chn, t_call, t_bi, t_ix, i_var, i_call, i_bi, i_rng, i_zip, ss_nil, ss_cons, so_none, so_some, ea_nil, ea_cons, an_1, an_2, or_1, or_2, tan_1, tan_2, tor_1, tor_2, tal_0, tal_1, ep_0, ep_1, st_, st2_, tu_nil, tu_c, w_0, w_s, ca_ok, at1, at2_0, at2_1, at4_0, at4_1, at4_2, at4_3, bo_nil, bo_c, io_nil, io_c, is_int, is_intb, is_tup, g_0, g_s, p_d, p_own, p_ref, d_d, d_own, a_d, a_own, a_ref, c_lst, c_dct, pk_nil, pk_cons, sa_nil, sa_cons, ao_nil, ao_cons, b_add, b_sub, b_mul, b_div, b_mod, b_pow, b_cat, n_int, n_bl, cv, c_eq, c_ne, c_lt, c_le, c_gt, c_ge, c_in, c_notIn, eq_int, x_lst, x_tup, x_dct, tr_bl, tr_int, bi_len, bi_lent, bi_abs, bi_int, bi_all, bi_list, bi_listk, bi_listt, bi_tuple, bi_tuplet, io_lst, io_klst, io_tup, k_nil, k_cons, k_asg, k_asgS, k_asgN, k_setix, k_ex, k_ret, k_retN, k_iff, k_whl, k_for, k_brk, k_cont, lo_nil, lo_cons, li_some, as_nm, as_tup, as_0, as_s, f_rt, f_own, f_nx, R.bind_ok, R.of_some, Option.bind_some, Option.map_some, List.length_cons, List.length_nil, List.set_cons_zero, List.set_cons_succ, List.map_cons, List.map_nil, List.replicate, List.cons_append, List.nil_append, if_true, if_false, Bool.false_eq_true, e1, e2, y2, Mt.d]
theorem alin_run (n : Nat) (a b c d : Pt) (S : Store) {k : Nat} (hk : k ≤ 400) (ha : BP k a) (hb : BP k b) (hc : BP k c) (hd : BP k d) : C (n + 4) 17 [.d (pt a), .d (pt b), .d (pt c), .d (pt d)] S = .ok (.d (alin a b c d).d) S := by
  have e1 := rising_run n a b S (k := k) (by omega) ha hb
  have e2 := rising_run n c d S (k := k) (by omega) hc hd
  obtain ⟨b1, b2⟩ := ri_B ha hb
  obtain ⟨b3, b4⟩ := ri_B hc hd
  have e3 := ahead_run (n + 1) (ri c d).1 (ri a b).1 S (k := k) (by omega) b3 b1
  have e4 := ahead_run (n + 1) (ri a b).2 (ri c d).2 S (k := k) (by omega) b2 b4
  have bf : BP k (if ah (ri c d).1 (ri a b).1 then (ri a b).1 else (ri c d).1) := by split; exact b1; exact b3
  have bl : BP k (if ah (ri a b).2 (ri c d).2 then (ri a b).2 else (ri c d).2) := by split; exact b2; exact b4
  have e5 := ahead_run (n + 1) _ _ S (k := k) (by omega) bf bl
  have y2 : 2 ≤ PySem.sizeLine := by decide
  have y3 : 3 ≤ PySem.sizeLine := by decide
  rw [call_at (fd := ⟨4, 8, b17⟩) rfl, r_run _ _ _ _ _ _ rfl]
  unfold alin
  generalize (ri a b).1 = l1 at *
  generalize (ri a b).2 = h1 at *
  generalize (ri c d).1 = l2 at *
  generalize (ri c d).2 = h2 at *
  have f1 : (if ah l2 l1 = true then (R.ok (.d (pt l1)) S : R Val) else .ok (.d (pt l2)) S) = .ok (.d (pt (if ah l2 l1 then l1 else l2))) S := by split <;> rfl
  have f2 : (if ah h1 h2 = true then (R.ok (.d (pt h1)) S : R Val) else .ok (.d (pt h2)) S) = .ok (.d (pt (if ah h1 h2 then h1 else h2))) S := by split <;> rfl
  generalize hf : (if ah l2 l1 then l1 else l2) = f at *
  generalize hl : (if ah h1 h2 then h1 else h2) = l at *
  have q := eq_pt f l
  by_cases w : f = l
  · rw [decide_eq_true w] at q
    rw [if_pos w]
    simp [b17, e_kN, e_kB, e_kI, e_kS, e_var, e_glb, e_fnv, e_typ, e_neg, e_bin, e_cmp, e_chn, e_and, e_or, e_not, e_ife, e_tup, e_lst, e_ix, e_slc, e_call, e_bi, e_mt, e_lc, e_dc, t_and, t_or, t_not, t_var, t_cmp, t_chn, t_call, t_bi, t_ix, i_var, i_call, i_bi, i_rng, i_zip, ss_nil, ss_cons, so_none, so_some, ea_nil, ea_cons, an_1, an_2, or_1, or_2, tan_1, tan_2, tor_1, tor_2, tal_0, tal_1, ep_0, ep_1, st_, st2_, tu_nil, tu_c, w_0, w_s, ca_ok, at1, at2_0, at2_1, at4_0, at4_1, at4_2, at4_3, bo_nil, bo_c, io_nil, io_c, is_int, is_intb, is_tup, g_0, g_s, p_d, p_own, p_ref, d_d, d_own, a_d, a_own, a_ref, c_lst, c_dct, pk_nil, pk_cons, sa_nil, sa_cons, ao_nil, ao_cons, b_add, b_sub, b_mul, b_div, b_mod, b_pow, b_cat, n_int, n_bl, cv, c_eq, c_ne, c_lt, c_le, c_gt, c_ge, c_in, c_notIn, eq_int, x_lst, x_tup, x_dct, tr_bl, tr_int, bi_len, bi_lent, bi_abs, bi_int, bi_all, bi_list, bi_listk, bi_listt, bi_tuple, bi_tuplet, io_lst, io_klst, io_tup, k_nil, k_cons, k_asg, k_asgS, k_asgN, k_setix, k_ex, k_ret, k_retN, k_iff, k_whl, k_for, k_brk, k_cont, lo_nil, lo_cons, li_some, as_nm, as_tup, as_0, as_s, f_rt, f_own, f_nx, R.bind_ok, R.of_some, Option.bind_some, Option.map_some, List.length_cons, List.length_nil, List.set_cons_zero, List.set_cons_succ, List.map_cons, List.map_nil, List.replicate, List.cons_append, List.nil_append, if_true, if_false, Bool.false_eq_true, e1, e2, e3, e4, f1, f2, q, y2, y3, Mt.d]
  · rw [decide_eq_false w] at q
    rw [if_neg w]
    cases w2 : ah f l <;> rw [w2] at e5 <;> simp [b17, e_kN, e_kB, e_kI, e_kS, e_var, e_glb, e_fnv, e_typ, e_neg, e_bin, e_cmp, e_chn, e_and, e_or, e_not, e_ife, e_tup, e_lst, e_ix, e_slc, e_call, e_bi, e_mt, e_lc, e_dc, t_and, t_or, t_not, t_var, t_cmp, t_chn, t_call, t_bi, t_ix, i_var, i_call, i_bi, i_rng, i_zip, ss_nil, ss_cons, so_none, so_some, ea_nil, ea_cons, an_1, an_2, or_1, or_2, tan_1, tan_2, tor_1, tor_2, tal_0, tal_1, ep_0, ep_1, st_, st2_, tu_nil, tu_c, w_0, w_s, ca_ok, at1, at2_0, at2_1, at4_0, at4_1, at4_2, at4_3, bo_nil, bo_c, io_nil, io_c, is_int, is_intb, is_tup, g_0, g_s, p_d, p_own, p_ref, d_d, d_own, a_d, a_own, a_ref, c_lst, c_dct, pk_nil, pk_cons, sa_nil, sa_cons, ao_nil, ao_cons, b_add, b_sub, b_mul, b_div, b_mod, b_pow, b_cat, n_int, n_bl, cv, c_eq, c_ne, c_lt, c_le, c_gt, c_ge, c_in, c_notIn, eq_int, x_lst, x_tup, x_dct, tr_bl, tr_int, bi_len, bi_lent, bi_abs, bi_int, bi_all, bi_list, bi_listk, bi_listt, bi_tuple, bi_tuplet, io_lst, io_klst, io_tup, k_nil, k_cons, k_asg, k_asgS, k_asgN, k_setix, k_ex, k_ret, k_retN, k_iff, k_whl, k_for, k_brk, k_cont, lo_nil, lo_cons, li_some, as_nm, as_tup, as_0, as_s, f_rt, f_own, f_nx, R.bind_ok, R.of_some, Option.bind_some, Option.map_some, List.length_cons, List.length_nil, List.set_cons_zero, List.set_cons_succ, List.map_cons, List.map_nil, List.replicate, List.cons_append, List.nil_append, if_true, if_false, Bool.false_eq_true, e1, e2, e3, e4, e5, f1, f2, q, y2, y3, Mt.d]
end K03

set_option maxHeartbeats 4000000
namespace K03
open Mi
open PySem (Str PyData)
def mt (a b c d : Pt) : Mt :=
  if tn a b c = 0 ∧ tn a b d = 0 then alin a b c d
  else if tn a b c = tn a b d then .no
  else if tn c d a = tn c d b then .no
  else if tn c d a = 0 then tch a b c d a
  else if tn c d b = 0 then tch a b c d b
  else if tn a b c = 0 then tch a b c d c
  else if tn a b d = 0 then tch a b c d d
  else .pt1 (part a b (ov (cr4 a c c d) (cr4 a b c d)))
theorem zdiv (x : Rat) : (0 : Rat) / x = 0 := by rw [Rat.div_def, Rat.zero_mul]
theorem i_lst (Fs : Fns) (Gs : List D) (es : List Ex) (E : Env) (S : Store) : (sem Fs Gs (.lst es)).it E S = ((sem Fs Gs (.lst es)).ev E S).bind fun v S1 => R.of (v.dat.bind itemsOf) S1 := rfl
theorem i_tup (Fs : Fns) (Gs : List D) (es : List Ex) (E : Env) (S : Store) : (sem Fs Gs (.tup es)).it E S = ((sem Fs Gs (.tup es)).ev E S).bind fun v S1 => R.of (v.dat.bind itemsOf) S1 := rfl
theorem sg_zero (x : Rat) : sg x = 0 ↔ x = 0 := by
  rcases sg_cases x with h | h | h
  · rw [h]; exact ⟨fun _ => rfl, fun _ => sg_0⟩
  · rw [sg_p h]; constructor
    · intro q; exact absurd q (by decide)
    · intro q; grind
  · rw [sg_n h]; constructor
    · intro q; exact absurd q (by decide)
    · intro q; grind
theorem sg_same {x y : Rat} (h : sg x = sg y) : (x = 0 ∧ y = 0) ∨ 0 < x * y := by
  rcases sg_cases x with p | p | p
  · rw [p, sg_0] at h; exact .inl ⟨p, (sg_zero y).mp h.symm⟩
  · rw [sg_p p] at h
    rcases sg_cases y with q | q | q
    · rw [q, sg_0] at h; exact absurd h (by decide)
    · exact .inr (Rat.mul_pos p q)
    · rw [sg_n q] at h; exact absurd h (by decide)
  · rw [sg_n p] at h
    rcases sg_cases y with q | q | q
    · rw [q, sg_0] at h; exact absurd h (by decide)
    · rw [sg_p q] at h; exact absurd h (by decide)
    · have := Rat.mul_pos (a := -x) (b := -y) (by grind) (by grind); exact .inr (by grind)
theorem sg_other {x y : Rat} (h : sg x ≠ sg y) : x * y ≤ 0 := by
  rcases sg_cases x with p | p | p
  · rw [p]; grind
  · rcases sg_cases y with q | q | q
    · rw [q]; grind
    · exact absurd ((sg_p p).trans (sg_p q).symm) h
    · have := Rat.mul_pos (a := x) (b := -y) p (by grind); grind
  · rcases sg_cases y with q | q | q
    · rw [q]; grind
    · have := Rat.mul_pos (a := -x) (b := y) (by grind) q; grind
    · exact absurd ((sg_n p).trans (sg_n q).symm) h
theorem val_ov {p q : Int × Int} (hp : Nm p) (hq : Nm q) (h : q.1 ≠ 0) : val (ov p q) = val p / val q ∧ Nm (ov p q) := by
  have a := cast_ne hp.ne
  have b := cast_ne hq.ne
  have c := cast_ne h
  refine ⟨?_, lo_nm _ _ (Int.mul_ne_zero hp.ne h)⟩
  unfold ov
  rw [val_lo _ _ (Int.mul_ne_zero hp.ne h)]
  simp only [Rat.intCast_mul]
  unfold val
  grind
theorem val_zero {p : Int × Int} (hp : Nm p) : p.1 = 0 ↔ val p = 0 := by
  have a := cast_ne hp.ne
  unfold val
  constructor
  · intro h; rw [h]; grind
  · intro h
    have e : (p.1 : Rat) = 0 := by grind
    exact Rat.intCast_inj.mp (show ((p.1 : Int) : Rat) = ((0 : Int) : Rat) by rw [e]; rfl)
theorem tch_pt {a b c d p : Pt} (h : Sp a b c d (.pt1 p)) : tch a b c d p = .pt1 p := by
  unfold tch
  rw [h.2.1.1, h.2.1.2]
  rfl
theorem mt_sp {a b c d : Pt} (na : NmP a) (nb : NmP b) (nc : NmP c) (nd : NmP d) (ne : a ≠ b) (ne2 : c ≠ d) : Sp a b c d (mt a b c d) := by
  have e := w_same (a := a) (b := b) (c := c) (d := d)
  unfold mt
  rw [tn_sg na nb nc, tn_sg na nb nd, tn_sg nc nd na, tn_sg nc nd nb]
  simp only [sg_zero]
  by_cases h0 : DD a b c = 0 ∧ DD a b d = 0
  · rw [if_pos h0]
    exact alin_sp na nb nc nd ne ne2 h0.1 h0.2
  rw [if_neg h0]
  by_cases h1 : sg (DD a b c) = sg (DD a b d)
  · rw [if_pos h1]
    rcases sg_same h1 with q | q
    · exact absurd q h0
    · by_cases w : DD c d a - DD c d b = 0
      · exact sp_par na nb nc nd ne ne2 w fun z => by rw [z] at q; grind
      · exact sp_no2 na nb nc nd ne ne2 w (by grind)
  rw [if_neg h1]
  have g2 := sg_other h1
  have hW : DD c d a - DD c d b ≠ 0 := fun z => h1 (by rw [show DD a b c = DD a b d by grind])
  by_cases h2 : sg (DD c d a) = sg (DD c d b)
  · rw [if_pos h2]
    rcases sg_same h2 with q | q
    · exact absurd (by rw [q.1, q.2]; grind) hW
    · exact sp_no1 na nb nc nd ne ne2 hW (by grind)
  rw [if_neg h2]
  have g1 := sg_other h2
  have base : ∀ x, NmP x → AtT (DD c d a / (DD c d a - DD c d b)) a b x → Sp a b c d (.pt1 x) := fun x nx hx => sp_at na nb nc nd ne ne2 nx hW hx g1 g2
  have k := Rat.div_mul_cancel (a := DD c d a) hW
  by_cases u0 : DD c d a = 0
  · rw [if_pos u0]
    have s : Sp a b c d (.pt1 a) := base a na (by
      have z : DD c d a / (DD c d a - DD c d b) = 0 := by rw [u0, zdiv]
      rw [z]
      exact ⟨by grind, by grind⟩)
    rw [tch_pt s]; exact s
  rw [if_neg u0]
  by_cases v0 : DD c d b = 0
  · rw [if_pos v0]
    have s : Sp a b c d (.pt1 b) := base b nb (by
      have z : DD c d a / (DD c d a - DD c d b) = 1 := by
        have : (DD c d a / (DD c d a - DD c d b) - 1) * DD c d a = 0 := by
          rw [v0] at k ⊢
          generalize DD c d a / (DD c d a - 0) = r at *
          grind
        have := (Rat.mul_eq_zero.mp this).resolve_right u0
        grind
      rw [z]
      exact ⟨by grind, by grind⟩)
    rw [tch_pt s]; exact s
  rw [if_neg v0]
  -- the place where the lines cross
  have hx := ptT_at a b (DD c d a / (DD c d a - DD c d b))
  have nx := ptT_nm a b (DD c d a / (DD c d a - DD c d b))
  have hy := cross_at hW k hx
  have hW2 : DD a b c - DD a b d ≠ 0 := fun z => hW (by grind)
  have k2 := Rat.div_mul_cancel (a := DD a b c) hW2
  by_cases x0 : DD a b c = 0
  · rw [if_pos x0]
    have z : DD a b c / (DD a b c - DD a b d) = 0 := by rw [x0, zdiv]
    rw [z] at hy
    have ex := at_same nx nc hy ⟨by grind, by grind⟩
    have s := base _ nx hx
    rw [ex] at s
    rw [tch_pt s]; exact s
  rw [if_neg x0]
  by_cases y0 : DD a b d = 0
  · rw [if_pos y0]
    have z : DD a b c / (DD a b c - DD a b d) = 1 := by
      have : (DD a b c / (DD a b c - DD a b d) - 1) * DD a b c = 0 := by
        rw [y0] at k2 ⊢
        generalize DD a b c / (DD a b c - 0) = r at *
        grind
      have := (Rat.mul_eq_zero.mp this).resolve_right x0
      grind
    rw [z] at hy
    have ex := at_same nx nd hy ⟨by grind, by grind⟩
    have s := base _ nx hx
    rw [ex] at s
    rw [tch_pt s]; exact s
  rw [if_neg y0]
  -- reckoned
  have n1 := cr4_nm na nc nc nd
  have n2 := cr4_nm na nb nc nd
  have w1 : val (cr4 a c c d) = DD c d a := by rw [cr4_val na nc nc nd]; unfold DD D2; grind
  have w2 : val (cr4 a b c d) = DD c d a - DD c d b := by rw [cr4_val na nb nc nd]; unfold DD D2; grind
  have nz : (cr4 a b c d).1 ≠ 0 := fun z => hW (by rw [← w2]; exact (val_zero n2).mp z)
  obtain ⟨vo, no⟩ := val_ov n1 n2 nz
  rw [w1, w2] at vo
  generalize ov (cr4 a c c d) (cr4 a b c d) = s at *
  refine base _ ⟨ad_nm na.a (ti_nm no (su_nm nb.a na.a)), ad_nm na.b (ti_nm no (su_nm nb.b na.b))⟩ ⟨?_, ?_⟩
  · show val (ad a.1 (ti s (su b.1 a.1))) = _
    rw [val_ad na.a (ti_nm no (su_nm nb.a na.a)), val_ti no (su_nm nb.a na.a), val_su nb.a na.a, vo]
  · show val (ad a.2 (ti s (su b.2 a.2))) = _
    rw [val_ad na.b (ti_nm no (su_nm nb.b na.b)), val_ti no (su_nm nb.b na.b), val_su nb.b na.b, vo]
/-! the program's way there -/
theorem tn_ne {a b c d : Pt} (na : NmP a) (nb : NmP b) (nc : NmP c) (nd : NmP d) (h1 : tn a b c ≠ tn a b d) : (cr4 a b c d).1 ≠ 0 := fun z => by
  have w2 : val (cr4 a b c d) = DD c d a - DD c d b := by rw [cr4_val na nb nc nd]; unfold DD D2; grind
  have q := (val_zero (cr4_nm na nb nc nd)).mp z
  have e := w_same (a := a) (b := b) (c := c) (d := d)
  exact h1 (by rw [tn_sg na nb nc, tn_sg na nb nd, show DD a b c = DD a b d by grind])
theorem meetin_run (n : Nat) (a b c d : Pt) (S : Store) {k : Nat} (hk : k ≤ 40) (ha : BP k a) (hb : BP k b) (hc : BP k c) (hd : BP k d) (na : NmP a) (nb : NmP b) (nc : NmP c) (nd : NmP d) : C (n + 6) 18 [.d (pt a), .d (pt b), .d (pt c), .d (pt d)] S = .ok (.d (mt a b c d).d) S := by
  have e1 := turnin_run (n + 3) a b c S (k := k) (by omega) ha hb hc
  have e2 := turnin_run (n + 3) a b d S (k := k) (by omega) ha hb hd
  have e3 := turnin_run (n + 3) c d a S (k := k) (by omega) hc hd ha
  have e4 := turnin_run (n + 3) c d b S (k := k) (by omega) hc hd hb
  have e5 := alin_run (n + 1) a b c d S (k := k) (by omega) ha hb hc hd
  have t1 := tch_run n a b c d a S (k := k) (by omega) ha hb hc hd ha
  have t2 := tch_run n a b c d b S (k := k) (by omega) ha hb hc hd hb
  have t3 := tch_run n a b c d c S (k := k) (by omega) ha hb hc hd hc
  have t4 := tch_run n a b c d d S (k := k) (by omega) ha hb hc hd hd
  have x1 := cr4_run (n + 1) a c c d S (k := k) (by omega) ha hc hc hd na nc nc nd
  have x2 := cr4_run (n + 1) a b c d S (k := k) (by omega) ha hb hc hd na nb nc nd
  have hz := tn_ne na nb nc nd
  have x3 : tn a b c ≠ tn a b d → C (n + 5) 7 [.d (fr (cr4 a c c d)), .d (fr (cr4 a b c d))] S = .ok (.d (fr (ov (cr4 a c c d) (cr4 a b c d)))) S ∧ C (n + 5) 16 [.d (pt a), .d (pt b), .d (fr (ov (cr4 a c c d) (cr4 a b c d)))] S = .ok (.d (pt (part a b (ov (cr4 a c c d) (cr4 a b c d))))) S := fun h => by
    have c1 := cr4_B ha hc hc hd
    have c2 := cr4_B ha hb hc hd
    have n1 := cr4_nm na nc nc nd
    have bo : Bp 1 ((0 : Int), (0 : Int)) := ⟨by unfold B; decide, by unfold B; decide⟩
    have bv : Bp 700 (ov (cr4 a c c d) (cr4 a b c d)) := (Bp.lo (k := 1000) ((c1.a.mul c2.b).mono (by omega)) ((c1.b.mul c2.a).mono (by omega))) |> fun _ => Bp.lo (k := 700) ((c1.a.mul c2.b).mono (by omega)) ((c1.b.mul c2.a).mono (by omega))
    exact ⟨over_in (n + 2) _ _ S (k := 485) (by omega) (c1.mono (by omega)) (c2.mono (by omega)) n1 (hz h), partin_run (n + 1) a b _ S (k := 700) (by omega) (ha.mono (by omega)) (hb.mono (by omega)) bv na nb (lo_nm _ _ (Int.mul_ne_zero n1.ne (hz h)))⟩
  have y2 : 2 ≤ PySem.sizeLine := by decide
  have y4 : 4 ≤ PySem.sizeLine := by decide
  rw [call_at (fd := ⟨4, 10, b18⟩) rfl, r_run _ _ _ _ _ _ rfl]
  unfold mt
  generalize tn a b c = cs at *
  generalize tn a b d = ds at *
  generalize tn c d a = as at *
  generalize tn c d b = bs at *
  by_cases h0 : cs = 0 ∧ ds = 0
  · obtain ⟨r1, r2⟩ := h0
    subst r1; subst r2
    rw [if_pos ⟨rfl, rfl⟩]
    simp [b18, e_kN, e_kB, e_kI, e_kS, e_var, e_glb, e_fnv, e_typ, e_neg, e_bin, e_cmp, e_chn, e_and, e_or, e_not, e_ife, e_tup, e_lst, e_ix, e_slc, e_call, e_bi, e_mt, e_lc, e_dc, t_and, t_or, t_not, t_var, t_cmp, t_chn, t_call, t_bi, t_ix, i_var, i_call, i_bi, i_rng, i_zip, ss_nil, ss_cons, so_none, so_some, ea_nil, ea_cons, an_1, an_2, or_1, or_2, tan_1, tan_2, tor_1, tor_2, tal_0, tal_1, ep_0, ep_1, st_, st2_, tu_nil, tu_c, w_0, w_s, ca_ok, at1, at2_0, at2_1, at4_0, at4_1, at4_2, at4_3, bo_nil, bo_c, io_nil, io_c, is_int, is_intb, is_tup, g_0, g_s, p_d, p_own, p_ref, d_d, d_own, a_d, a_own, a_ref, c_lst, c_dct, pk_nil, pk_cons, sa_nil, sa_cons, ao_nil, ao_cons, b_add, b_sub, b_mul, b_div, b_mod, b_pow, b_cat, n_int, n_bl, cv, c_eq, c_ne, c_lt, c_le, c_gt, c_ge, c_in, c_notIn, eq_int, x_lst, x_tup, x_dct, tr_bl, tr_int, bi_len, bi_lent, bi_abs, bi_int, bi_all, bi_list, bi_listk, bi_listt, bi_tuple, bi_tuplet, io_lst, io_klst, io_tup, k_nil, k_cons, k_asg, k_asgS, k_asgN, k_setix, k_ex, k_ret, k_retN, k_iff, k_whl, k_for, k_brk, k_cont, lo_nil, lo_cons, li_some, as_nm, as_tup, as_0, as_s, f_rt, f_own, f_nx, R.bind_ok, R.of_some, Option.bind_some, Option.map_some, List.length_cons, List.length_nil, List.set_cons_zero, List.set_cons_succ, List.map_cons, List.map_nil, List.replicate, List.cons_append, List.nil_append, if_true, if_false, Bool.false_eq_true, eq_int, e1, e2, e5, y2]
  rw [if_neg h0]
  by_cases h1 : cs = ds
  · subst h1
    rw [if_pos rfl]
    have z : cs ≠ 0 := fun q => h0 ⟨q, q⟩
    have z' : (cs == 0) = false := by simpa using z
    simp [b18, e_kN, e_kB, e_kI, e_kS, e_var, e_glb, e_fnv, e_typ, e_neg, e_bin, e_cmp, e_chn, e_and, e_or, e_not, e_ife, e_tup, e_lst, e_ix, e_slc, e_call, e_bi, e_mt, e_lc, e_dc, t_and, t_or, t_not, t_var, t_cmp, t_chn, t_call, t_bi, t_ix, i_var, i_call, i_bi, i_rng, i_zip, ss_nil, ss_cons, so_none, so_some, ea_nil, ea_cons, an_1, an_2, or_1, or_2, tan_1, tan_2, tor_1, tor_2, tal_0, tal_1, ep_0, ep_1, st_, st2_, tu_nil, tu_c, w_0, w_s, ca_ok, at1, at2_0, at2_1, at4_0, at4_1, at4_2, at4_3, bo_nil, bo_c, io_nil, io_c, is_int, is_intb, is_tup, g_0, g_s, p_d, p_own, p_ref, d_d, d_own, a_d, a_own, a_ref, c_lst, c_dct, pk_nil, pk_cons, sa_nil, sa_cons, ao_nil, ao_cons, b_add, b_sub, b_mul, b_div, b_mod, b_pow, b_cat, n_int, n_bl, cv, c_eq, c_ne, c_lt, c_le, c_gt, c_ge, c_in, c_notIn, eq_int, x_lst, x_tup, x_dct, tr_bl, tr_int, bi_len, bi_lent, bi_abs, bi_int, bi_all, bi_list, bi_listk, bi_listt, bi_tuple, bi_tuplet, io_lst, io_klst, io_tup, k_nil, k_cons, k_asg, k_asgS, k_asgN, k_setix, k_ex, k_ret, k_retN, k_iff, k_whl, k_for, k_brk, k_cont, lo_nil, lo_cons, li_some, as_nm, as_tup, as_0, as_s, f_rt, f_own, f_nx, R.bind_ok, R.of_some, Option.bind_some, Option.map_some, List.length_cons, List.length_nil, List.set_cons_zero, List.set_cons_succ, List.map_cons, List.map_nil, List.replicate, List.cons_append, List.nil_append, if_true, if_false, Bool.false_eq_true, eq_int, e1, e2, z', y2, Mt.d]
  rw [if_neg h1]
  obtain ⟨x3, x4⟩ := x3 h1
  have h1' : (cs == ds) = false := by simpa using h1
  by_cases h2 : as = bs
  · subst h2
    rw [if_pos rfl]
    by_cases z : cs = 0
    · subst z
      have z2 : (ds == 0) = false := by simpa using fun q => h0 ⟨rfl, q⟩
      simp [b18, e_kN, e_kB, e_kI, e_kS, e_var, e_glb, e_fnv, e_typ, e_neg, e_bin, e_cmp, e_chn, e_and, e_or, e_not, e_ife, e_tup, e_lst, e_ix, e_slc, e_call, e_bi, e_mt, e_lc, e_dc, t_and, t_or, t_not, t_var, t_cmp, t_chn, t_call, t_bi, t_ix, i_var, i_call, i_bi, i_rng, i_zip, ss_nil, ss_cons, so_none, so_some, ea_nil, ea_cons, an_1, an_2, or_1, or_2, tan_1, tan_2, tor_1, tor_2, tal_0, tal_1, ep_0, ep_1, st_, st2_, tu_nil, tu_c, w_0, w_s, ca_ok, at1, at2_0, at2_1, at4_0, at4_1, at4_2, at4_3, bo_nil, bo_c, io_nil, io_c, is_int, is_intb, is_tup, g_0, g_s, p_d, p_own, p_ref, d_d, d_own, a_d, a_own, a_ref, c_lst, c_dct, pk_nil, pk_cons, sa_nil, sa_cons, ao_nil, ao_cons, b_add, b_sub, b_mul, b_div, b_mod, b_pow, b_cat, n_int, n_bl, cv, c_eq, c_ne, c_lt, c_le, c_gt, c_ge, c_in, c_notIn, eq_int, x_lst, x_tup, x_dct, tr_bl, tr_int, bi_len, bi_lent, bi_abs, bi_int, bi_all, bi_list, bi_listk, bi_listt, bi_tuple, bi_tuplet, io_lst, io_klst, io_tup, k_nil, k_cons, k_asg, k_asgS, k_asgN, k_setix, k_ex, k_ret, k_retN, k_iff, k_whl, k_for, k_brk, k_cont, lo_nil, lo_cons, li_some, as_nm, as_tup, as_0, as_s, f_rt, f_own, f_nx, R.bind_ok, R.of_some, Option.bind_some, Option.map_some, List.length_cons, List.length_nil, List.set_cons_zero, List.set_cons_succ, List.map_cons, List.map_nil, List.replicate, List.cons_append, List.nil_append, if_true, if_false, Bool.false_eq_true, i_tup, eq_int, e1, e2, e3, e4, z2, h1', y2, Mt.d]
    · have z' : (cs == 0) = false := by simpa using z
      simp [b18, e_kN, e_kB, e_kI, e_kS, e_var, e_glb, e_fnv, e_typ, e_neg, e_bin, e_cmp, e_chn, e_and, e_or, e_not, e_ife, e_tup, e_lst, e_ix, e_slc, e_call, e_bi, e_mt, e_lc, e_dc, t_and, t_or, t_not, t_var, t_cmp, t_chn, t_call, t_bi, t_ix, i_var, i_call, i_bi, i_rng, i_zip, ss_nil, ss_cons, so_none, so_some, ea_nil, ea_cons, an_1, an_2, or_1, or_2, tan_1, tan_2, tor_1, tor_2, tal_0, tal_1, ep_0, ep_1, st_, st2_, tu_nil, tu_c, w_0, w_s, ca_ok, at1, at2_0, at2_1, at4_0, at4_1, at4_2, at4_3, bo_nil, bo_c, io_nil, io_c, is_int, is_intb, is_tup, g_0, g_s, p_d, p_own, p_ref, d_d, d_own, a_d, a_own, a_ref, c_lst, c_dct, pk_nil, pk_cons, sa_nil, sa_cons, ao_nil, ao_cons, b_add, b_sub, b_mul, b_div, b_mod, b_pow, b_cat, n_int, n_bl, cv, c_eq, c_ne, c_lt, c_le, c_gt, c_ge, c_in, c_notIn, eq_int, x_lst, x_tup, x_dct, tr_bl, tr_int, bi_len, bi_lent, bi_abs, bi_int, bi_all, bi_list, bi_listk, bi_listt, bi_tuple, bi_tuplet, io_lst, io_klst, io_tup, k_nil, k_cons, k_asg, k_asgS, k_asgN, k_setix, k_ex, k_ret, k_retN, k_iff, k_whl, k_for, k_brk, k_cont, lo_nil, lo_cons, li_some, as_nm, as_tup, as_0, as_s, f_rt, f_own, f_nx, R.bind_ok, R.of_some, Option.bind_some, Option.map_some, List.length_cons, List.length_nil, List.set_cons_zero, List.set_cons_succ, List.map_cons, List.map_nil, List.replicate, List.cons_append, List.nil_append, if_true, if_false, Bool.false_eq_true, i_tup, eq_int, e1, e2, e3, e4, z', h1', y2, Mt.d]
  rw [if_neg h2]
  have h2' : (as == bs) = false := by simpa using h2
  by_cases z1 : as = 0
  · subst z1
    rw [if_pos rfl]
    by_cases z : cs = 0
    · subst z
      have z2 : (ds == 0) = false := by simpa using fun q => h0 ⟨rfl, q⟩
      simp [b18, e_kN, e_kB, e_kI, e_kS, e_var, e_glb, e_fnv, e_typ, e_neg, e_bin, e_cmp, e_chn, e_and, e_or, e_not, e_ife, e_tup, e_lst, e_ix, e_slc, e_call, e_bi, e_mt, e_lc, e_dc, t_and, t_or, t_not, t_var, t_cmp, t_chn, t_call, t_bi, t_ix, i_var, i_call, i_bi, i_rng, i_zip, ss_nil, ss_cons, so_none, so_some, ea_nil, ea_cons, an_1, an_2, or_1, or_2, tan_1, tan_2, tor_1, tor_2, tal_0, tal_1, ep_0, ep_1, st_, st2_, tu_nil, tu_c, w_0, w_s, ca_ok, at1, at2_0, at2_1, at4_0, at4_1, at4_2, at4_3, bo_nil, bo_c, io_nil, io_c, is_int, is_intb, is_tup, g_0, g_s, p_d, p_own, p_ref, d_d, d_own, a_d, a_own, a_ref, c_lst, c_dct, pk_nil, pk_cons, sa_nil, sa_cons, ao_nil, ao_cons, b_add, b_sub, b_mul, b_div, b_mod, b_pow, b_cat, n_int, n_bl, cv, c_eq, c_ne, c_lt, c_le, c_gt, c_ge, c_in, c_notIn, eq_int, x_lst, x_tup, x_dct, tr_bl, tr_int, bi_len, bi_lent, bi_abs, bi_int, bi_all, bi_list, bi_listk, bi_listt, bi_tuple, bi_tuplet, io_lst, io_klst, io_tup, k_nil, k_cons, k_asg, k_asgS, k_asgN, k_setix, k_ex, k_ret, k_retN, k_iff, k_whl, k_for, k_brk, k_cont, lo_nil, lo_cons, li_some, as_nm, as_tup, as_0, as_s, f_rt, f_own, f_nx, R.bind_ok, R.of_some, Option.bind_some, Option.map_some, List.length_cons, List.length_nil, List.set_cons_zero, List.set_cons_succ, List.map_cons, List.map_nil, List.replicate, List.cons_append, List.nil_append, if_true, if_false, Bool.false_eq_true, i_tup, eq_int, e1, e2, e3, e4, z2, h1', h2', t1, y2, y4]
    · have z' : (cs == 0) = false := by simpa using z
      simp [b18, e_kN, e_kB, e_kI, e_kS, e_var, e_glb, e_fnv, e_typ, e_neg, e_bin, e_cmp, e_chn, e_and, e_or, e_not, e_ife, e_tup, e_lst, e_ix, e_slc, e_call, e_bi, e_mt, e_lc, e_dc, t_and, t_or, t_not, t_var, t_cmp, t_chn, t_call, t_bi, t_ix, i_var, i_call, i_bi, i_rng, i_zip, ss_nil, ss_cons, so_none, so_some, ea_nil, ea_cons, an_1, an_2, or_1, or_2, tan_1, tan_2, tor_1, tor_2, tal_0, tal_1, ep_0, ep_1, st_, st2_, tu_nil, tu_c, w_0, w_s, ca_ok, at1, at2_0, at2_1, at4_0, at4_1, at4_2, at4_3, bo_nil, bo_c, io_nil, io_c, is_int, is_intb, is_tup, g_0, g_s, p_d, p_own, p_ref, d_d, d_own, a_d, a_own, a_ref, c_lst, c_dct, pk_nil, pk_cons, sa_nil, sa_cons, ao_nil, ao_cons, b_add, b_sub, b_mul, b_div, b_mod, b_pow, b_cat, n_int, n_bl, cv, c_eq, c_ne, c_lt, c_le, c_gt, c_ge, c_in, c_notIn, eq_int, x_lst, x_tup, x_dct, tr_bl, tr_int, bi_len, bi_lent, bi_abs, bi_int, bi_all, bi_list, bi_listk, bi_listt, bi_tuple, bi_tuplet, io_lst, io_klst, io_tup, k_nil, k_cons, k_asg, k_asgS, k_asgN, k_setix, k_ex, k_ret, k_retN, k_iff, k_whl, k_for, k_brk, k_cont, lo_nil, lo_cons, li_some, as_nm, as_tup, as_0, as_s, f_rt, f_own, f_nx, R.bind_ok, R.of_some, Option.bind_some, Option.map_some, List.length_cons, List.length_nil, List.set_cons_zero, List.set_cons_succ, List.map_cons, List.map_nil, List.replicate, List.cons_append, List.nil_append, if_true, if_false, Bool.false_eq_true, i_tup, eq_int, e1, e2, e3, e4, z', h1', h2', t1, y2, y4]
  rw [if_neg z1]
  have z1' : (as == 0) = false := by simpa using z1
  by_cases z2 : bs = 0
  · subst z2
    rw [if_pos rfl]
    by_cases z : cs = 0
    · subst z
      have z2 : (ds == 0) = false := by simpa using fun q => h0 ⟨rfl, q⟩
      simp [b18, e_kN, e_kB, e_kI, e_kS, e_var, e_glb, e_fnv, e_typ, e_neg, e_bin, e_cmp, e_chn, e_and, e_or, e_not, e_ife, e_tup, e_lst, e_ix, e_slc, e_call, e_bi, e_mt, e_lc, e_dc, t_and, t_or, t_not, t_var, t_cmp, t_chn, t_call, t_bi, t_ix, i_var, i_call, i_bi, i_rng, i_zip, ss_nil, ss_cons, so_none, so_some, ea_nil, ea_cons, an_1, an_2, or_1, or_2, tan_1, tan_2, tor_1, tor_2, tal_0, tal_1, ep_0, ep_1, st_, st2_, tu_nil, tu_c, w_0, w_s, ca_ok, at1, at2_0, at2_1, at4_0, at4_1, at4_2, at4_3, bo_nil, bo_c, io_nil, io_c, is_int, is_intb, is_tup, g_0, g_s, p_d, p_own, p_ref, d_d, d_own, a_d, a_own, a_ref, c_lst, c_dct, pk_nil, pk_cons, sa_nil, sa_cons, ao_nil, ao_cons, b_add, b_sub, b_mul, b_div, b_mod, b_pow, b_cat, n_int, n_bl, cv, c_eq, c_ne, c_lt, c_le, c_gt, c_ge, c_in, c_notIn, eq_int, x_lst, x_tup, x_dct, tr_bl, tr_int, bi_len, bi_lent, bi_abs, bi_int, bi_all, bi_list, bi_listk, bi_listt, bi_tuple, bi_tuplet, io_lst, io_klst, io_tup, k_nil, k_cons, k_asg, k_asgS, k_asgN, k_setix, k_ex, k_ret, k_retN, k_iff, k_whl, k_for, k_brk, k_cont, lo_nil, lo_cons, li_some, as_nm, as_tup, as_0, as_s, f_rt, f_own, f_nx, R.bind_ok, R.of_some, Option.bind_some, Option.map_some, List.length_cons, List.length_nil, List.set_cons_zero, List.set_cons_succ, List.map_cons, List.map_nil, List.replicate, List.cons_append, List.nil_append, if_true, if_false, Bool.false_eq_true, i_tup, eq_int, e1, e2, e3, e4, z2, h1', h2', z1', t2, y2, y4]
    · have z' : (cs == 0) = false := by simpa using z
      simp [b18, e_kN, e_kB, e_kI, e_kS, e_var, e_glb, e_fnv, e_typ, e_neg, e_bin, e_cmp, e_chn, e_and, e_or, e_not, e_ife, e_tup, e_lst, e_ix, e_slc, e_call, e_bi, e_mt, e_lc, e_dc, t_and, t_or, t_not, t_var, t_cmp, t_chn, t_call, t_bi, t_ix, i_var, i_call, i_bi, i_rng, i_zip, ss_nil, ss_cons, so_none, so_some, ea_nil, ea_cons, an_1, an_2, or_1, or_2, tan_1, tan_2, tor_1, tor_2, tal_0, tal_1, ep_0, ep_1, st_, st2_, tu_nil, tu_c, w_0, w_s, ca_ok, at1, at2_0, at2_1, at4_0, at4_1, at4_2, at4_3, bo_nil, bo_c, io_nil, io_c, is_int, is_intb, is_tup, g_0, g_s, p_d, p_own, p_ref, d_d, d_own, a_d, a_own, a_ref, c_lst, c_dct, pk_nil, pk_cons, sa_nil, sa_cons, ao_nil, ao_cons, b_add, b_sub, b_mul, b_div, b_mod, b_pow, b_cat, n_int, n_bl, cv, c_eq, c_ne, c_lt, c_le, c_gt, c_ge, c_in, c_notIn, eq_int, x_lst, x_tup, x_dct, tr_bl, tr_int, bi_len, bi_lent, bi_abs, bi_int, bi_all, bi_list, bi_listk, bi_listt, bi_tuple, bi_tuplet, io_lst, io_klst, io_tup, k_nil, k_cons, k_asg, k_asgS, k_asgN, k_setix, k_ex, k_ret, k_retN, k_iff, k_whl, k_for, k_brk, k_cont, lo_nil, lo_cons, li_some, as_nm, as_tup, as_0, as_s, f_rt, f_own, f_nx, R.bind_ok, R.of_some, Option.bind_some, Option.map_some, List.length_cons, List.length_nil, List.set_cons_zero, List.set_cons_succ, List.map_cons, List.map_nil, List.replicate, List.cons_append, List.nil_append, if_true, if_false, Bool.false_eq_true, i_tup, eq_int, e1, e2, e3, e4, z', h1', h2', z1', t2, y2, y4]
  rw [if_neg z2]
  have z2' : (bs == 0) = false := by simpa using z2
  by_cases z3 : cs = 0
  · subst z3
    rw [if_pos rfl]
    have z2 : (ds == 0) = false := by simpa using fun q => h0 ⟨rfl, q⟩
    simp [b18, e_kN, e_kB, e_kI, e_kS, e_var, e_glb, e_fnv, e_typ, e_neg, e_bin, e_cmp, e_chn, e_and, e_or, e_not, e_ife, e_tup, e_lst, e_ix, e_slc, e_call, e_bi, e_mt, e_lc, e_dc, t_and, t_or, t_not, t_var, t_cmp, t_chn, t_call, t_bi, t_ix, i_var, i_call, i_bi, i_rng, i_zip, ss_nil, ss_cons, so_none, so_some, ea_nil, ea_cons, an_1, an_2, or_1, or_2, tan_1, tan_2, tor_1, tor_2, tal_0, tal_1, ep_0, ep_1, st_, st2_, tu_nil, tu_c, w_0, w_s, ca_ok, at1, at2_0, at2_1, at4_0, at4_1, at4_2, at4_3, bo_nil, bo_c, io_nil, io_c, is_int, is_intb, is_tup, g_0, g_s, p_d, p_own, p_ref, d_d, d_own, a_d, a_own, a_ref, c_lst, c_dct, pk_nil, pk_cons, sa_nil, sa_cons, ao_nil, ao_cons, b_add, b_sub, b_mul, b_div, b_mod, b_pow, b_cat, n_int, n_bl, cv, c_eq, c_ne, c_lt, c_le, c_gt, c_ge, c_in, c_notIn, eq_int, x_lst, x_tup, x_dct, tr_bl, tr_int, bi_len, bi_lent, bi_abs, bi_int, bi_all, bi_list, bi_listk, bi_listt, bi_tuple, bi_tuplet, io_lst, io_klst, io_tup, k_nil, k_cons, k_asg, k_asgS, k_asgN, k_setix, k_ex, k_ret, k_retN, k_iff, k_whl, k_for, k_brk, k_cont, lo_nil, lo_cons, li_some, as_nm, as_tup, as_0, as_s, f_rt, f_own, f_nx, R.bind_ok, R.of_some, Option.bind_some, Option.map_some, List.length_cons, List.length_nil, List.set_cons_zero, List.set_cons_succ, List.map_cons, List.map_nil, List.replicate, List.cons_append, List.nil_append, if_true, if_false, Bool.false_eq_true, i_tup, eq_int, e1, e2, e3, e4, z2, h1', h2', z1', z2', t3, y2, y4]
  rw [if_neg z3]
  have z3' : (cs == 0) = false := by simpa using z3
  by_cases z4 : ds = 0
  · subst z4
    rw [if_pos rfl]
    simp [b18, e_kN, e_kB, e_kI, e_kS, e_var, e_glb, e_fnv, e_typ, e_neg, e_bin, e_cmp, e_chn, e_and, e_or, e_not, e_ife, e_tup, e_lst, e_ix, e_slc, e_call, e_bi, e_mt, e_lc, e_dc, t_and, t_or, t_not, t_var, t_cmp, t_chn, t_call, t_bi, t_ix, i_var, i_call, i_bi, i_rng, i_zip, ss_nil, ss_cons, so_none, so_some, ea_nil, ea_cons, an_1, an_2, or_1, or_2, tan_1, tan_2, tor_1, tor_2, tal_0, tal_1, ep_0, ep_1, st_, st2_, tu_nil, tu_c, w_0, w_s, ca_ok, at1, at2_0, at2_1, at4_0, at4_1, at4_2, at4_3, bo_nil, bo_c, io_nil, io_c, is_int, is_intb, is_tup, g_0, g_s, p_d, p_own, p_ref, d_d, d_own, a_d, a_own, a_ref, c_lst, c_dct, pk_nil, pk_cons, sa_nil, sa_cons, ao_nil, ao_cons, b_add, b_sub, b_mul, b_div, b_mod, b_pow, b_cat, n_int, n_bl, cv, c_eq, c_ne, c_lt, c_le, c_gt, c_ge, c_in, c_notIn, eq_int, x_lst, x_tup, x_dct, tr_bl, tr_int, bi_len, bi_lent, bi_abs, bi_int, bi_all, bi_list, bi_listk, bi_listt, bi_tuple, bi_tuplet, io_lst, io_klst, io_tup, k_nil, k_cons, k_asg, k_asgS, k_asgN, k_setix, k_ex, k_ret, k_retN, k_iff, k_whl, k_for, k_brk, k_cont, lo_nil, lo_cons, li_some, as_nm, as_tup, as_0, as_s, f_rt, f_own, f_nx, R.bind_ok, R.of_some, Option.bind_some, Option.map_some, List.length_cons, List.length_nil, List.set_cons_zero, List.set_cons_succ, List.map_cons, List.map_nil, List.replicate, List.cons_append, List.nil_append, if_true, if_false, Bool.false_eq_true, i_tup, eq_int, e1, e2, e3, e4, h1', h2', z1', z2', z3', t4, y2, y4]
  rw [if_neg z4]
  have z4' : (ds == 0) = false := by simpa using z4
  simp [b18, e_kN, e_kB, e_kI, e_kS, e_var, e_glb, e_fnv, e_typ, e_neg, e_bin, e_cmp, e_chn, e_and, e_or, e_not, e_ife, e_tup, e_lst, e_ix, e_slc, e_call, e_bi, e_mt, e_lc, e_dc, t_and, t_or, t_not, t_var, t_cmp, t_chn, t_call, t_bi, t_ix, i_var, i_call, i_bi, i_rng, i_zip, ss_nil, ss_cons, so_none, so_some, ea_nil, ea_cons, an_1, an_2, or_1, or_2, tan_1, tan_2, tor_1, tor_2, tal_0, tal_1, ep_0, ep_1, st_, st2_, tu_nil, tu_c, w_0, w_s, ca_ok, at1, at2_0, at2_1, at4_0, at4_1, at4_2, at4_3, bo_nil, bo_c, io_nil, io_c, is_int, is_intb, is_tup, g_0, g_s, p_d, p_own, p_ref, d_d, d_own, a_d, a_own, a_ref, c_lst, c_dct, pk_nil, pk_cons, sa_nil, sa_cons, ao_nil, ao_cons, b_add, b_sub, b_mul, b_div, b_mod, b_pow, b_cat, n_int, n_bl, cv, c_eq, c_ne, c_lt, c_le, c_gt, c_ge, c_in, c_notIn, eq_int, x_lst, x_tup, x_dct, tr_bl, tr_int, bi_len, bi_lent, bi_abs, bi_int, bi_all, bi_list, bi_listk, bi_listt, bi_tuple, bi_tuplet, io_lst, io_klst, io_tup, k_nil, k_cons, k_asg, k_asgS, k_asgN, k_setix, k_ex, k_ret, k_retN, k_iff, k_whl, k_for, k_brk, k_cont, lo_nil, lo_cons, li_some, as_nm, as_tup, as_0, as_s, f_rt, f_own, f_nx, R.bind_ok, R.of_some, Option.bind_some, Option.map_some, List.length_cons, List.length_nil, List.set_cons_zero, List.set_cons_succ, List.map_cons, List.map_nil, List.replicate, List.cons_append, List.nil_append, if_true, if_false, Bool.false_eq_true, i_tup, eq_int, e1, e2, e3, e4, h1', h2', z1', z2', z3', z4', x1, x2, x3, x4, y2, y4, Mt.d]
end K03

set_option maxHeartbeats 4000000
namespace K03
open Mi
open PySem (Str PyData)
/-! the lattice -/
def pl (P : Int × Int) : Pt := ((P.1, 1), (P.2, 1))
theorem one_nm (i : Int) : Nm ((i, 1) : Int × Int) := ⟨by show (0 : Int) < 1; omega, by show Int.gcd i 1 = 1; exact Int.gcd_one_right i⟩
theorem pl_nm (P : Int × Int) : NmP (pl P) := ⟨one_nm _, one_nm _⟩
theorem one_val (i : Int) : val ((i, 1) : Int × Int) = (i : Rat) := by
  unfold val
  show (i : Rat) / ((1 : Int) : Rat) = i
  have : ((1 : Int) : Rat) = 1 := rfl
  rw [this]
  grind
theorem pl_inj {P Q : Int × Int} (h : pl P = pl Q) : P = Q := by
  have h1 := congrArg (fun x : Pt => x.1.1) h
  have h2 := congrArg (fun x : Pt => x.2.1) h
  exact Prod.ext h1 h2
def lcr (a b c : Int × Int) : Int := (b.1 - a.1) * (c.2 - a.2) - (b.2 - a.2) * (c.1 - a.1)
theorem lcr_DD (a b c : Int × Int) : DD (pl a) (pl b) (pl c) = (lcr a b c : Rat) := by
  unfold DD D2 lcr pl
  simp only [one_val, Rat.intCast_sub, Rat.intCast_mul]
theorem cast_zero (i : Int) : (i : Rat) = 0 ↔ i = 0 := by
  constructor
  · intro h; exact Rat.intCast_inj.mp (show (i : Rat) = ((0 : Int) : Rat) by rw [h]; rfl)
  · intro h; rw [h]; rfl
theorem cast_le0 (i : Int) : (i : Rat) ≤ 0 ↔ i ≤ 0 := by
  have : (i : Rat) ≤ ((0 : Int) : Rat) ↔ i ≤ 0 := Rat.intCast_le_intCast
  exact this
def llt (a b : Int × Int) : Bool := decide (a.1 < b.1 ∨ (a.1 = b.1 ∧ a.2 < b.2))
theorem ah_pl (a b : Int × Int) : ah (pl a) (pl b) = llt a b := by
  rw [Bool.eq_iff_iff, ah_val (pl_nm a) (pl_nm b)]
  unfold llt pl
  simp only [one_val, decide_eq_true_eq, Rat.intCast_lt_intCast, Rat.intCast_inj]
def lmin (a b : Int × Int) : Int × Int := if llt b a then b else a
def lmax (a b : Int × Int) : Int × Int := if llt a b then b else a
def duM (a b c d : Int × Int) : Mt :=
  if lcr a b c = 0 ∧ lcr a b d = 0 then
    if llt (lmin (lmax a b) (lmax c d)) (lmax (lmin a b) (lmin c d)) = true then .no
    else if lmax (lmin a b) (lmin c d) = lmin (lmax a b) (lmax c d) then .pt1 (pl (lmax (lmin a b) (lmin c d)))
    else .seg (pl (lmax (lmin a b) (lmin c d))) (pl (lmin (lmax a b) (lmax c d)))
  else if lcr c d a - lcr c d b = 0 ∨ lcr c d a * (lcr c d a - lcr c d b) < 0 ∨ (lcr c d a - lcr c d b) * (lcr c d a - lcr c d b) < lcr c d a * (lcr c d a - lcr c d b) then .no
  else if lcr a b c * lcr a b d ≤ 0 then .pt1 (lo (a.1 * (lcr c d a - lcr c d b) + lcr c d a * (b.1 - a.1)) (lcr c d a - lcr c d b), lo (a.2 * (lcr c d a - lcr c d b) + lcr c d a * (b.2 - a.2)) (lcr c d a - lcr c d b))
  else .no
theorem llt_tri {a b : Int × Int} (h : llt a b = false) (h' : llt b a = false) : a = b := by
  unfold llt at h h'
  simp only [decide_eq_false_iff_not] at h h'
  exact Prod.ext (by omega) (by omega)
theorem llt_asym {a b : Int × Int} (h : llt a b = true) : llt b a = false := by
  unfold llt at *
  simp only [decide_eq_true_eq, decide_eq_false_iff_not] at *
  omega
theorem ri_pl {a b : Int × Int} : (ri (pl a) (pl b)).1 = pl (lmin a b) ∧ (ri (pl a) (pl b)).2 = pl (lmax a b) := by
  unfold ri lmin lmax
  rw [ah_pl]
  by_cases h : llt b a = true
  · rw [if_pos h, if_pos h, if_neg (by rw [llt_asym h]; simp)]
    exact ⟨rfl, rfl⟩
  · rw [if_neg h, if_neg h]
    refine ⟨rfl, ?_⟩
    split
    · rfl
    · next h2 => rw [llt_tri (a := b) (b := a) (by simpa using h) (by simpa using h2)]
theorem duM_along (a b c d : Int × Int) : alin (pl a) (pl b) (pl c) (pl d) = if llt (lmin (lmax a b) (lmax c d)) (lmax (lmin a b) (lmin c d)) = true then .no
    else if lmax (lmin a b) (lmin c d) = lmin (lmax a b) (lmax c d) then .pt1 (pl (lmax (lmin a b) (lmin c d)))
    else .seg (pl (lmax (lmin a b) (lmin c d))) (pl (lmin (lmax a b) (lmax c d))) := by
  unfold alin
  rw [(ri_pl (a := a) (b := b)).1, (ri_pl (a := a) (b := b)).2, (ri_pl (a := c) (b := d)).1, (ri_pl (a := c) (b := d)).2]
  generalize lmin a b = l1
  generalize lmax a b = h1
  generalize lmin c d = l2
  generalize lmax c d = h2
  have e1 : (if ah (pl l2) (pl l1) = true then pl l1 else pl l2) = pl (lmax l1 l2) := by
    rw [ah_pl]
    unfold lmax
    by_cases q : llt l2 l1 = true
    · rw [if_pos q, if_neg (by rw [llt_asym q]; simp)]
    · rw [if_neg q]
      split
      · rfl
      · next w => rw [llt_tri (a := l2) (b := l1) (by simpa using q) (by simpa using w)]
  have e2 : (if ah (pl h1) (pl h2) = true then pl h1 else pl h2) = pl (lmin h1 h2) := by
    rw [ah_pl]
    unfold lmin
    by_cases q : llt h1 h2 = true
    · rw [if_pos q, if_neg (by rw [llt_asym q]; simp)]
    · rw [if_neg q]
      split
      · rfl
      · next w => rw [llt_tri (a := h2) (b := h1) (by simpa using w) (by simpa using q)]
  rw [e1, e2, ah_pl]
  generalize lmax l1 l2 = f
  generalize lmin h1 h2 = l
  by_cases q : f = l
  · subst q
    have z : llt f f = false := by cases h : llt f f with
      | false => rfl
      | true => have := llt_asym h; rw [h] at this; cases this
    rw [if_pos rfl, z, if_neg (by simp), if_pos rfl]
  · rw [if_neg (fun e => q (pl_inj e)), if_neg q]
    by_cases w : llt f l = true
    · rw [if_pos w, if_neg (by rw [llt_asym w]; simp)]
    · rw [if_neg w]
      have : llt l f = true := by
        cases h : llt l f with
        | true => rfl
        | false => exact absurd (llt_tri (by simpa using w) h) q
      rw [if_pos this]
theorem sqn (u : Int) : 0 ≤ u * u := by
  rcases Int.le_total 0 u with h | h
  · exact Int.mul_nonneg h h
  · exact Int.mul_nonneg_of_nonpos_of_nonpos h h
theorem duM_sp {a b c d : Int × Int} (ne : a ≠ b) (ne2 : c ≠ d) : Sp (pl a) (pl b) (pl c) (pl d) (duM a b c d) := by
  have na := pl_nm a
  have nb := pl_nm b
  have nc := pl_nm c
  have nd := pl_nm d
  have ne' : pl a ≠ pl b := fun e => ne (pl_inj e)
  have ne2' : pl c ≠ pl d := fun e => ne2 (pl_inj e)
  have e := w_same (a := pl a) (b := pl b) (c := pl c) (d := pl d)
  have dX := lcr_DD a b c
  have dY := lcr_DD a b d
  have dU := lcr_DD c d a
  have dV := lcr_DD c d b
  unfold duM
  by_cases h0 : lcr a b c = 0 ∧ lcr a b d = 0
  · rw [if_pos h0, ← duM_along]
    exact alin_sp na nb nc nd ne' ne2' (by rw [dX]; exact (cast_zero _).mpr h0.1) (by rw [dY]; exact (cast_zero _).mpr h0.2)
  rw [if_neg h0]
  have dW : DD (pl c) (pl d) (pl a) - DD (pl c) (pl d) (pl b) = ((lcr c d a - lcr c d b : Int) : Rat) := by rw [dU, dV, Rat.intCast_sub]
  by_cases w : lcr c d a - lcr c d b = 0
  · rw [if_pos (.inl w)]
    refine sp_par na nb nc nd ne' ne2' (by rw [dW, w]; rfl) fun z => h0 ?_
    have x0 := (cast_zero _).mp (dX.symm.trans z)
    have z2 : DD (pl a) (pl b) (pl d) = 0 := by
      rw [w] at dW
      have : ((0 : Int) : Rat) = 0 := rfl
      rw [this] at dW
      grind
    exact ⟨x0, (cast_zero _).mp (dY.symm.trans z2)⟩
  have hW : DD (pl c) (pl d) (pl a) - DD (pl c) (pl d) (pl b) ≠ 0 := by rw [dW]; exact fun z => w ((cast_zero _).mp z)
  have g1 : DD (pl c) (pl d) (pl a) * DD (pl c) (pl d) (pl b) ≤ 0 ↔ lcr c d a * lcr c d b ≤ 0 := by rw [dU, dV, ← Rat.intCast_mul, cast_le0]
  have g2 : DD (pl a) (pl b) (pl c) * DD (pl a) (pl b) (pl d) ≤ 0 ↔ lcr a b c * lcr a b d ≤ 0 := by rw [dX, dY, ← Rat.intCast_mul, cast_le0]
  have in01 : lcr c d a * lcr c d b ≤ 0 ↔ ¬ (lcr c d a * (lcr c d a - lcr c d b) < 0 ∨ (lcr c d a - lcr c d b) * (lcr c d a - lcr c d b) < lcr c d a * (lcr c d a - lcr c d b)) := by
    generalize lcr c d a = u at *
    generalize lcr c d b = v at *
    have q1 : (u - v) * (u - v) - u * (u - v) = v * (v - u) := by grind
    have q2 : u * (u - v) = u * u - u * v := by grind
    have q3 : v * (v - u) = v * v - u * v := by grind
    have s1 := sqn u
    have s2 := sqn v
    constructor
    · intro h; omega
    · intro h
      have h1 : 0 ≤ u * (u - v) := by omega
      have h2 : 0 ≤ v * (v - u) := by omega
      apply Int.not_lt.mp
      intro p
      -- u v > 0: then u (u - v) and v (v - u) are of unlike signs
      rcases Int.lt_trichotomy (u - v) 0 with d | d | d
      · have hu : u ≤ 0 := by
          apply Int.not_lt.mp; intro hu
          have := Int.mul_neg_of_pos_of_neg hu d; omega
        have hv : 0 ≤ v := by
          apply Int.not_lt.mp; intro hv
          have := Int.mul_neg_of_neg_of_pos hv (show 0 < v - u by omega); omega
        have := Int.mul_nonpos_of_nonpos_of_nonneg hu hv; omega
      · exact w d
      · have hu : 0 ≤ u := by
          apply Int.not_lt.mp; intro hu
          have := Int.mul_neg_of_neg_of_pos hu d; omega
        have hv : v ≤ 0 := by
          apply Int.not_lt.mp; intro hv
          have := Int.mul_neg_of_pos_of_neg hv (show v - u < 0 by omega); omega
        have := Int.mul_nonpos_of_nonneg_of_nonpos hu hv; omega
  by_cases h1 : lcr c d a * (lcr c d a - lcr c d b) < 0 ∨ (lcr c d a - lcr c d b) * (lcr c d a - lcr c d b) < lcr c d a * (lcr c d a - lcr c d b)
  · rw [if_pos (.inr h1)]
    exact sp_no1 na nb nc nd ne' ne2' hW fun g => (in01.mp (g1.mp g)) h1
  rw [if_neg (fun z => z.elim w h1)]
  by_cases h2 : lcr a b c * lcr a b d ≤ 0
  · rw [if_pos h2]
    refine sp_at na nb nc nd ne' ne2' ⟨lo_nm _ _ w, lo_nm _ _ w⟩ hW ?_ (g1.mpr (in01.mpr h1)) (g2.mpr h2)
    have wc := cast_ne w
    rw [dW, dU]
    have v1 : val (pl a).1 = (a.1 : Rat) := one_val _
    have v2 : val (pl a).2 = (a.2 : Rat) := one_val _
    have v3 : val (pl b).1 = (b.1 : Rat) := one_val _
    have v4 : val (pl b).2 = (b.2 : Rat) := one_val _
    refine ⟨?_, ?_⟩
    · show val (lo _ _) = _
      rw [val_lo _ _ w, v1, v3, Rat.intCast_add, Rat.intCast_mul, Rat.intCast_mul, Rat.intCast_sub b.1]
      generalize ((lcr c d a - lcr c d b : Int) : Rat) = ww at *
      generalize ((lcr c d a : Int) : Rat) = uu at *
      grind
    · show val (lo _ _) = _
      rw [val_lo _ _ w, v2, v4, Rat.intCast_add, Rat.intCast_mul, Rat.intCast_mul, Rat.intCast_sub b.2]
      generalize ((lcr c d a - lcr c d b : Int) : Rat) = ww at *
      generalize ((lcr c d a : Int) : Rat) = uu at *
      grind
  · rw [if_neg h2]
    exact sp_no2 na nb nc nd ne' ne2' hW fun g => h2 (g2.mp g)
/-! the image -/
def img (f : Fm) : Mt → Mt
  | .no => .no
  | .pt1 p => .pt1 (mk f p)
  | .seg p q => if ah (mk f p) (mk f q) = true then .seg (mk f p) (mk f q) else .seg (mk f q) (mk f p)
theorem mk_nm {f : Fm} {P : Pt} (hf : FmOk f) (h : NmP P) : NmP (mk f P) := by
  have w : f.w ≠ 0 := by have := hf.w0; omega
  have z : f.z ≠ 0 := by have := hf.z0; omega
  exact ⟨lo_nm _ _ (Int.mul_ne_zero (Int.mul_ne_zero w h.a.ne) h.b.ne), lo_nm _ _ (Int.mul_ne_zero (Int.mul_ne_zero z h.a.ne) h.b.ne)⟩
theorem on_img {f : Fm} {a b x : Pt} (hf : FmOk f) (na : NmP a) (nb : NmP b) (nx : NmP x) (ne : a ≠ b) : on_ (mk f a) (mk f b) (mk f x) = on_ a b x := by
  have ma := mk_nm hf na
  have mb := mk_nm hf nb
  have mx := mk_nm hf nx
  have ne' : mk f a ≠ mk f b := fun e => ne (mk_inj hf na nb e)
  rw [Bool.eq_iff_iff, on_iff ma mb mx ne', on_iff na nb nx ne]
  constructor
  · rintro ⟨t, h, g⟩
    have h2 := t_mk hf na nb (ptT_nm a b t) (ptT_at a b t)
    have e := mk_inj hf nx (ptT_nm a b t) (at_same mx (mk_nm hf (ptT_nm a b t)) h h2)
    rw [e]
    exact ⟨t, ptT_at a b t, g⟩
  · rintro ⟨t, h, g⟩
    exact ⟨t, t_mk hf na nb nx h, g⟩
theorem on_back {f : Fm} {a b y : Pt} (hf : FmOk f) (na : NmP a) (nb : NmP b) (ny : NmP y) (ne : a ≠ b) (h : on_ (mk f a) (mk f b) y = true) : ∃ x, NmP x ∧ y = mk f x := by
  obtain ⟨t, h1, g⟩ := (on_iff (mk_nm hf na) (mk_nm hf nb) ny fun e => ne (mk_inj hf na nb e)).mp h
  exact ⟨ptT a b t, ptT_nm a b t, at_same ny (mk_nm hf (ptT_nm a b t)) h1 (t_mk hf na nb (ptT_nm a b t) (ptT_at a b t))⟩
theorem sp_img {f : Fm} {a b c d : Pt} (hf : FmOk f) (na : NmP a) (nb : NmP b) (nc : NmP c) (nd : NmP d) (ne : a ≠ b) (ne2 : c ≠ d) : ∀ {r : Mt}, Sp a b c d r → Sp (mk f a) (mk f b) (mk f c) (mk f d) (img f r) := by
  have co : ∀ x, NmP x → (Co (mk f a) (mk f b) (mk f c) (mk f d) (mk f x) ↔ Co a b c d x) := fun x nx => by
    unfold Co
    rw [on_img hf na nb nx ne, on_img hf nc nd nx ne2]
  have back : ∀ y, NmP y → Co (mk f a) (mk f b) (mk f c) (mk f d) y → ∃ x, NmP x ∧ y = mk f x := fun y ny h => on_back hf na nb ny ne h.1
  intro r h
  cases r with
  | no =>
    intro y ny g
    obtain ⟨x, nx, rfl⟩ := back y ny g
    exact h x nx ((co x nx).mp g)
  | pt1 p =>
    refine ⟨mk_nm hf h.1, (co p h.1).mpr h.2.1, fun y ny g => ?_⟩
    obtain ⟨x, nx, rfl⟩ := back y ny g
    rw [h.2.2 x nx ((co x nx).mp g)]
  | seg p q =>
    obtain ⟨np, nq, o, e⟩ := h
    have mp := mk_nm hf np
    have mq := mk_nm hf nq
    have pq := ah_ne np o
    have key : ∀ y, NmP y → (Co (mk f a) (mk f b) (mk f c) (mk f d) y ↔ on_ (mk f p) (mk f q) y = true) := fun y ny => by
      constructor
      · intro g
        obtain ⟨x, nx, rfl⟩ := back y ny g
        rw [on_img hf np nq nx pq]
        exact (e x nx).mp ((co x nx).mp g)
      · intro g
        obtain ⟨x, nx, rfl⟩ := on_back hf np nq ny pq g
        rw [on_img hf np nq nx pq] at g
        exact (co x nx).mpr ((e x nx).mpr g)
    by_cases w : ah (mk f p) (mk f q) = true
    · rw [show img f (.seg p q) = .seg (mk f p) (mk f q) from if_pos w]
      exact ⟨mp, mq, w, key⟩
    · rw [show img f (.seg p q) = .seg (mk f q) (mk f p) from if_neg w]
      refine ⟨mq, mp, ah_of mq mp (fun e => pq (mk_inj hf np nq e.symm)) (by simpa using w), fun y ny => ?_⟩
      rw [key y ny, on_swap mp mq ny]
end K03

set_option maxHeartbeats 4000000
namespace K03
open Mi
open PySem (Str PyData)
theorem chkseg_run (n : Nat) (x y : Str) (a b : Pt) (S : Store) {k : Nat} (hk : k ≤ 700) (ha : BP k a) (hb : BP k b) (na : NmP a) (nb : NmP b) (ne : a ≠ b) : C (n + 5) 23 [.d (.tup [.tup [.str x, pt a], .tup [.str y, pt b]])] S = .ok (.d .non) S := by
  have e1 : C (n + 4) 20 [.d (.tup [.tup [.str x, pt a], .tup [.str y, pt b]])] S = .ok (.d .non) S := chkp_run n [(x, a), (y, b)] S fun z hz => by
    simp only [List.mem_cons, List.not_mem_nil, or_false] at hz
    rcases hz with e | e <;> subst e
    · exact ⟨na, ha.mono (by omega)⟩
    · exact ⟨nb, hb.mono (by omega)⟩
  have q := eq_pt a b
  rw [decide_eq_false ne] at q
  rw [call_at (fd := ⟨1, 1, b23⟩) rfl, r_run _ _ _ _ _ _ rfl]
  simp [b23, e_kN, e_kB, e_kI, e_kS, e_var, e_glb, e_fnv, e_typ, e_neg, e_bin, e_cmp, e_chn, e_and, e_or, e_not, e_ife, e_tup, e_lst, e_ix, e_slc, e_call, e_bi, e_mt, e_lc, e_dc, t_and, t_or, t_not, t_var, t_cmp, t_chn, t_call, t_bi, t_ix, i_var, i_call, i_bi, i_rng, i_zip, ss_nil, ss_cons, so_none, so_some, ea_nil, ea_cons, an_1, an_2, or_1, or_2, tan_1, tan_2, tor_1, tor_2, tal_0, tal_1, ep_0, ep_1, st_, st2_, tu_nil, tu_c, w_0, w_s, ca_ok, at1, at2_0, at2_1, at4_0, at4_1, at4_2, at4_3, bo_nil, bo_c, io_nil, io_c, is_int, is_intb, is_tup, g_0, g_s, p_d, p_own, p_ref, d_d, d_own, a_d, a_own, a_ref, c_lst, c_dct, pk_nil, pk_cons, sa_nil, sa_cons, ao_nil, ao_cons, b_add, b_sub, b_mul, b_div, b_mod, b_pow, b_cat, n_int, n_bl, cv, c_eq, c_ne, c_lt, c_le, c_gt, c_ge, c_in, c_notIn, eq_int, x_lst, x_tup, x_dct, tr_bl, tr_int, bi_len, bi_lent, bi_abs, bi_int, bi_all, bi_list, bi_listk, bi_listt, bi_tuple, bi_tuplet, io_lst, io_klst, io_tup, k_nil, k_cons, k_asg, k_asgS, k_asgN, k_setix, k_ex, k_ret, k_retN, k_iff, k_whl, k_for, k_brk, k_cont, lo_nil, lo_cons, li_some, as_nm, as_tup, as_0, as_s, f_rt, f_own, f_nx, R.bind_ok, R.of_some, Option.bind_some, Option.map_some, List.length_cons, List.length_nil, List.set_cons_zero, List.set_cons_succ, List.map_cons, List.map_nil, List.replicate, List.cons_append, List.nil_append, if_true, if_false, Bool.false_eq_true, e1, q]
theorem meet_run (n : Nat) (a b c d : Pt) (S : Store) {k : Nat} (hk : k ≤ 40) (ha : BP k a) (hb : BP k b) (hc : BP k c) (hd : BP k d) (na : NmP a) (nb : NmP b) (nc : NmP c) (nd : NmP d) (ne : a ≠ b) (ne2 : c ≠ d) : C (n + 7) 24 [.d (pt a), .d (pt b), .d (pt c), .d (pt d)] S = .ok (.d (mt a b c d).d) S := by
  have e1 := chkseg_run (n + 1) "a" "b" a b S (k := k) (by omega) ha hb na nb ne
  have e2 := chkseg_run (n + 1) "c" "d" c d S (k := k) (by omega) hc hd nc nd ne2
  have e3 := meetin_run n a b c d S (k := k) hk ha hb hc hd na nb nc nd
  have y2 : 2 ≤ PySem.sizeLine := by decide
  rw [call_at (fd := ⟨4, 4, b24⟩) rfl, r_run _ _ _ _ _ _ rfl]
  simp [b24, e_kN, e_kB, e_kI, e_kS, e_var, e_glb, e_fnv, e_typ, e_neg, e_bin, e_cmp, e_chn, e_and, e_or, e_not, e_ife, e_tup, e_lst, e_ix, e_slc, e_call, e_bi, e_mt, e_lc, e_dc, t_and, t_or, t_not, t_var, t_cmp, t_chn, t_call, t_bi, t_ix, i_var, i_call, i_bi, i_rng, i_zip, ss_nil, ss_cons, so_none, so_some, ea_nil, ea_cons, an_1, an_2, or_1, or_2, tan_1, tan_2, tor_1, tor_2, tal_0, tal_1, ep_0, ep_1, st_, st2_, tu_nil, tu_c, w_0, w_s, ca_ok, at1, at2_0, at2_1, at4_0, at4_1, at4_2, at4_3, bo_nil, bo_c, io_nil, io_c, is_int, is_intb, is_tup, g_0, g_s, p_d, p_own, p_ref, d_d, d_own, a_d, a_own, a_ref, c_lst, c_dct, pk_nil, pk_cons, sa_nil, sa_cons, ao_nil, ao_cons, b_add, b_sub, b_mul, b_div, b_mod, b_pow, b_cat, n_int, n_bl, cv, c_eq, c_ne, c_lt, c_le, c_gt, c_ge, c_in, c_notIn, eq_int, x_lst, x_tup, x_dct, tr_bl, tr_int, bi_len, bi_lent, bi_abs, bi_int, bi_all, bi_list, bi_listk, bi_listt, bi_tuple, bi_tuplet, io_lst, io_klst, io_tup, k_nil, k_cons, k_asg, k_asgS, k_asgN, k_setix, k_ex, k_ret, k_retN, k_iff, k_whl, k_for, k_brk, k_cont, lo_nil, lo_cons, li_some, as_nm, as_tup, as_0, as_s, f_rt, f_own, f_nx, R.bind_ok, R.of_some, Option.bind_some, Option.map_some, List.length_cons, List.length_nil, List.set_cons_zero, List.set_cons_succ, List.map_cons, List.map_nil, List.replicate, List.cons_append, List.nil_append, if_true, if_false, Bool.false_eq_true, e1, e2, e3, y2]
/-! the law's own -/
theorem lcr_run (n : Nat) (a b c : Int × Int) (S : Store) (ha : Bp 6 a) (hb : Bp 6 b) (hc : Bp 6 c) : C (n + 1) 33 [.d (fr a), .d (fr b), .d (fr c)] S = .ok (I (lcr a b c)) S := by
  have m1 := cmul_ok (hb.a.sub ha.a) (hc.b.sub ha.b) (by omega)
  have m2 := cmul_ok (hb.b.sub ha.b) (hc.a.sub ha.a) (by omega)
  rw [call_at (fd := ⟨3, 3, b33⟩) rfl, r_run _ _ _ _ _ _ rfl]
  simp [b33, e_kN, e_kB, e_kI, e_kS, e_var, e_glb, e_fnv, e_typ, e_neg, e_bin, e_cmp, e_chn, e_and, e_or, e_not, e_ife, e_tup, e_lst, e_ix, e_slc, e_call, e_bi, e_mt, e_lc, e_dc, t_and, t_or, t_not, t_var, t_cmp, t_chn, t_call, t_bi, t_ix, i_var, i_call, i_bi, i_rng, i_zip, ss_nil, ss_cons, so_none, so_some, ea_nil, ea_cons, an_1, an_2, or_1, or_2, tan_1, tan_2, tor_1, tor_2, tal_0, tal_1, ep_0, ep_1, st_, st2_, tu_nil, tu_c, w_0, w_s, ca_ok, at1, at2_0, at2_1, at4_0, at4_1, at4_2, at4_3, bo_nil, bo_c, io_nil, io_c, is_int, is_intb, is_tup, g_0, g_s, p_d, p_own, p_ref, d_d, d_own, a_d, a_own, a_ref, c_lst, c_dct, pk_nil, pk_cons, sa_nil, sa_cons, ao_nil, ao_cons, b_add, b_sub, b_mul, b_div, b_mod, b_pow, b_cat, n_int, n_bl, cv, c_eq, c_ne, c_lt, c_le, c_gt, c_ge, c_in, c_notIn, eq_int, x_lst, x_tup, x_dct, tr_bl, tr_int, bi_len, bi_lent, bi_abs, bi_int, bi_all, bi_list, bi_listk, bi_listt, bi_tuple, bi_tuplet, io_lst, io_klst, io_tup, k_nil, k_cons, k_asg, k_asgS, k_asgN, k_setix, k_ex, k_ret, k_retN, k_iff, k_whl, k_for, k_brk, k_cont, lo_nil, lo_cons, li_some, as_nm, as_tup, as_0, as_s, f_rt, f_own, f_nx, R.bind_ok, R.of_some, Option.bind_some, Option.map_some, List.length_cons, List.length_nil, List.set_cons_zero, List.set_cons_succ, List.map_cons, List.map_nil, List.replicate, List.cons_append, List.nil_append, if_true, if_false, Bool.false_eq_true, m1, m2, lcr]
theorem lcr_B {a b c : Int × Int} (ha : Bp 6 a) (hb : Bp 6 b) (hc : Bp 6 c) : B 15 (lcr a b c) := ((hb.a.sub ha.a).mul (hc.b.sub ha.b)).sub ((hb.b.sub ha.b).mul (hc.a.sub ha.a))
theorem min_2 (a b : Int × Int) : biD .min [.lst [fr a, fr b]] = some (.d (fr (lmin a b))) := by
  have p : pys [fr a, fr b] = some [.tuple [.int a.1, .int a.2], .tuple [.int b.1, .int b.2]] := rfl
  show bestD PySem.W.dataLt [fr a, fr b] = _
  unfold bestD
  rw [p, Option.bind_some]
  have s : (PySem.SeqAt.shaped (.list [.tuple [.int a.1, .int a.2], .tuple [.int b.1, .int b.2]]) && (([.tuple [.int a.1, .int a.2], .tuple [.int b.1, .int b.2]] : List PyData).all fun x => ([.tuple [.int a.1, .int a.2], .tuple [.int b.1, .int b.2]] : List PyData).all fun y => PySem.W.alike x y) && ([.tuple [.int a.1, .int a.2], .tuple [.int b.1, .int b.2]] : List PyData).all notNoneP && !([.tuple [.int a.1, .int a.2], .tuple [.int b.1, .int b.2]] : List PyData).isEmpty) = true := rfl
  rw [if_pos s]
  have i : bestI PySem.W.dataLt [.tuple [.int a.1, .int a.2], .tuple [.int b.1, .int b.2]] = if llt b a then 1 else 0 := by
    show (if PySem.W.dataLt (.tuple [.int b.1, .int b.2]) (.tuple [.int a.1, .int a.2]) = true then 0 + 1 else 0) = _
    rw [PySem.W.dataLt_ii]
    rfl
  rw [i]
  unfold lmin
  split <;> rfl
theorem max_2 (a b : Int × Int) : biD .max [.lst [fr a, fr b]] = some (.d (fr (lmax a b))) := by
  have p : pys [fr a, fr b] = some [.tuple [.int a.1, .int a.2], .tuple [.int b.1, .int b.2]] := rfl
  show bestD (fun x y => PySem.W.dataLt y x) [fr a, fr b] = _
  unfold bestD
  rw [p, Option.bind_some]
  have s : (PySem.SeqAt.shaped (.list [.tuple [.int a.1, .int a.2], .tuple [.int b.1, .int b.2]]) && (([.tuple [.int a.1, .int a.2], .tuple [.int b.1, .int b.2]] : List PyData).all fun x => ([.tuple [.int a.1, .int a.2], .tuple [.int b.1, .int b.2]] : List PyData).all fun y => PySem.W.alike x y) && ([.tuple [.int a.1, .int a.2], .tuple [.int b.1, .int b.2]] : List PyData).all notNoneP && !([.tuple [.int a.1, .int a.2], .tuple [.int b.1, .int b.2]] : List PyData).isEmpty) = true := rfl
  rw [if_pos s]
  have i : bestI (fun x y => PySem.W.dataLt y x) [.tuple [.int a.1, .int a.2], .tuple [.int b.1, .int b.2]] = if llt a b then 1 else 0 := by
    show (if PySem.W.dataLt (.tuple [.int a.1, .int a.2]) (.tuple [.int b.1, .int b.2]) = true then 0 + 1 else 0) = _
    rw [PySem.W.dataLt_ii]
    rfl
  rw [i]
  unfold lmax
  split <;> rfl
theorem gt_2 (a b : Int × Int) : cmpD .Gt (fr a) (fr b) = some (llt b a) := by
  show some (PySem.W.dataLt (.tuple [.int b.1, .int b.2]) (.tuple [.int a.1, .int a.2])) = _
  rw [PySem.W.dataLt_ii]
  rfl
theorem i_ife (Fs : Fns) (Gs : List D) (t a b : Ex) (E : Env) (S : Store) : (sem Fs Gs (.ife t a b)).it E S = (((sem Fs Gs t).ts E S).bind fun c S1 => if c then (sem Fs Gs a).ev E S1 else (sem Fs Gs b).ev E S1).bind fun v S1 => R.of (v.dat.bind itemsOf) S1 := rfl
def Mt.lv : Mt → Val
  | .no => .d .non
  | .pt1 p => .own (.lst [pt p])
  | .seg p q => .own (.lst [pt p, pt q])
def Mt.l : Mt → D
  | .no => .non
  | .pt1 p => .lst [pt p]
  | .seg p q => .lst [pt p, pt q]
theorem lmin_B {a b : Int × Int} {k : Nat} (ha : Bp k a) (hb : Bp k b) : Bp k (lmin a b) := by unfold lmin; split; exact hb; exact ha
theorem lmax_B {a b : Int × Int} {k : Nat} (ha : Bp k a) (hb : Bp k b) : Bp k (lmax a b) := by unfold lmax; split; exact hb; exact ha
theorem due_run (n : Nat) (a b c d : Int × Int) (S : Store) (ha : Bp 6 a) (hb : Bp 6 b) (hc : Bp 6 c) (hd : Bp 6 d) : C (n + 2) 34 [.d (fr a), .d (fr b), .d (fr c), .d (fr d)] S = .ok (duM a b c d).lv S := by
  have e1 := lcr_run n a b c S ha hb hc
  have e2 := lcr_run n a b d S ha hb hd
  have e3 := lcr_run n c d a S hc hd ha
  have e4 := lcr_run n c d b S hc hd hb
  have B1 := lcr_B ha hb hc
  have B2 := lcr_B ha hb hd
  have B3 := lcr_B hc hd ha
  have B4 := lcr_B hc hd hb
  have y1 : 1 ≤ PySem.sizeLine := by decide
  have y2 : 2 ≤ PySem.sizeLine := by decide
  rw [call_at (fd := ⟨4, 13, b34⟩) rfl, r_run _ _ _ _ _ _ rfl]
  unfold duM
  have l1 := fun x y h => llow_run n x y S h
  generalize lcr a b c = x at *
  generalize lcr a b d = y at *
  generalize lcr c d a = u at *
  generalize lcr c d b = v at *
  by_cases h0 : x = 0 ∧ y = 0
  · obtain ⟨r1, r2⟩ := h0
    subst r1; subst r2
    rw [if_pos ⟨rfl, rfl⟩]
    have q1 := min_2 a b
    have q2 := min_2 c d
    have q3 := max_2 a b
    have q4 := max_2 c d
    have q5 := max_2 (lmin a b) (lmin c d)
    have q6 := min_2 (lmax a b) (lmax c d)
    generalize lmax (lmin a b) (lmin c d) = f at *
    generalize lmin (lmax a b) (lmax c d) = l at *
    have q7 := gt_2 f l
    have q8 := eq_fr f l
    by_cases w : llt l f = true
    · rw [if_pos w]
      rw [w] at q7
      simp [b34, e_kN, e_kB, e_kI, e_kS, e_var, e_glb, e_fnv, e_typ, e_neg, e_bin, e_cmp, e_chn, e_and, e_or, e_not, e_ife, e_tup, e_lst, e_ix, e_slc, e_call, e_bi, e_mt, e_lc, e_dc, t_and, t_or, t_not, t_var, t_cmp, t_chn, t_call, t_bi, t_ix, i_var, i_call, i_bi, i_rng, i_zip, ss_nil, ss_cons, so_none, so_some, ea_nil, ea_cons, an_1, an_2, or_1, or_2, tan_1, tan_2, tor_1, tor_2, tal_0, tal_1, ep_0, ep_1, st_, st2_, tu_nil, tu_c, w_0, w_s, ca_ok, at1, at2_0, at2_1, at4_0, at4_1, at4_2, at4_3, bo_nil, bo_c, io_nil, io_c, is_int, is_intb, is_tup, g_0, g_s, p_d, p_own, p_ref, d_d, d_own, a_d, a_own, a_ref, c_lst, c_dct, pk_nil, pk_cons, sa_nil, sa_cons, ao_nil, ao_cons, b_add, b_sub, b_mul, b_div, b_mod, b_pow, b_cat, n_int, n_bl, cv, c_eq, c_ne, c_lt, c_le, c_gt, c_ge, c_in, c_notIn, eq_int, x_lst, x_tup, x_dct, tr_bl, tr_int, bi_len, bi_lent, bi_abs, bi_int, bi_all, bi_list, bi_listk, bi_listt, bi_tuple, bi_tuplet, io_lst, io_klst, io_tup, k_nil, k_cons, k_asg, k_asgS, k_asgN, k_setix, k_ex, k_ret, k_retN, k_iff, k_whl, k_for, k_brk, k_cont, lo_nil, lo_cons, li_some, as_nm, as_tup, as_0, as_s, f_rt, f_own, f_nx, R.bind_ok, R.of_some, Option.bind_some, Option.map_some, List.length_cons, List.length_nil, List.set_cons_zero, List.set_cons_succ, List.map_cons, List.map_nil, List.replicate, List.cons_append, List.nil_append, if_true, if_false, Bool.false_eq_true, i_ife, i_lst, eq_int, e1, e2, q1, q2, q3, q4, q5, q6, q7, y2, Mt.lv]
    · rw [if_neg w]
      have w' : llt l f = false := by simpa using w
      rw [w'] at q7
      by_cases w2 : f = l
      · rw [if_pos w2]
        rw [decide_eq_true w2] at q8
        simp [b34, e_kN, e_kB, e_kI, e_kS, e_var, e_glb, e_fnv, e_typ, e_neg, e_bin, e_cmp, e_chn, e_and, e_or, e_not, e_ife, e_tup, e_lst, e_ix, e_slc, e_call, e_bi, e_mt, e_lc, e_dc, t_and, t_or, t_not, t_var, t_cmp, t_chn, t_call, t_bi, t_ix, i_var, i_call, i_bi, i_rng, i_zip, ss_nil, ss_cons, so_none, so_some, ea_nil, ea_cons, an_1, an_2, or_1, or_2, tan_1, tan_2, tor_1, tor_2, tal_0, tal_1, ep_0, ep_1, st_, st2_, tu_nil, tu_c, w_0, w_s, ca_ok, at1, at2_0, at2_1, at4_0, at4_1, at4_2, at4_3, bo_nil, bo_c, io_nil, io_c, is_int, is_intb, is_tup, g_0, g_s, p_d, p_own, p_ref, d_d, d_own, a_d, a_own, a_ref, c_lst, c_dct, pk_nil, pk_cons, sa_nil, sa_cons, ao_nil, ao_cons, b_add, b_sub, b_mul, b_div, b_mod, b_pow, b_cat, n_int, n_bl, cv, c_eq, c_ne, c_lt, c_le, c_gt, c_ge, c_in, c_notIn, eq_int, x_lst, x_tup, x_dct, tr_bl, tr_int, bi_len, bi_lent, bi_abs, bi_int, bi_all, bi_list, bi_listk, bi_listt, bi_tuple, bi_tuplet, io_lst, io_klst, io_tup, k_nil, k_cons, k_asg, k_asgS, k_asgN, k_setix, k_ex, k_ret, k_retN, k_iff, k_whl, k_for, k_brk, k_cont, lo_nil, lo_cons, li_some, as_nm, as_tup, as_0, as_s, f_rt, f_own, f_nx, R.bind_ok, R.of_some, Option.bind_some, Option.map_some, List.length_cons, List.length_nil, List.set_cons_zero, List.set_cons_succ, List.map_cons, List.map_nil, List.replicate, List.cons_append, List.nil_append, if_true, if_false, Bool.false_eq_true, i_ife, i_lst, eq_int, e1, e2, q1, q2, q3, q4, q5, q6, q7, q8, y1, y2, Mt.lv, pl]
      · rw [if_neg w2]
        rw [decide_eq_false w2] at q8
        simp [b34, e_kN, e_kB, e_kI, e_kS, e_var, e_glb, e_fnv, e_typ, e_neg, e_bin, e_cmp, e_chn, e_and, e_or, e_not, e_ife, e_tup, e_lst, e_ix, e_slc, e_call, e_bi, e_mt, e_lc, e_dc, t_and, t_or, t_not, t_var, t_cmp, t_chn, t_call, t_bi, t_ix, i_var, i_call, i_bi, i_rng, i_zip, ss_nil, ss_cons, so_none, so_some, ea_nil, ea_cons, an_1, an_2, or_1, or_2, tan_1, tan_2, tor_1, tor_2, tal_0, tal_1, ep_0, ep_1, st_, st2_, tu_nil, tu_c, w_0, w_s, ca_ok, at1, at2_0, at2_1, at4_0, at4_1, at4_2, at4_3, bo_nil, bo_c, io_nil, io_c, is_int, is_intb, is_tup, g_0, g_s, p_d, p_own, p_ref, d_d, d_own, a_d, a_own, a_ref, c_lst, c_dct, pk_nil, pk_cons, sa_nil, sa_cons, ao_nil, ao_cons, b_add, b_sub, b_mul, b_div, b_mod, b_pow, b_cat, n_int, n_bl, cv, c_eq, c_ne, c_lt, c_le, c_gt, c_ge, c_in, c_notIn, eq_int, x_lst, x_tup, x_dct, tr_bl, tr_int, bi_len, bi_lent, bi_abs, bi_int, bi_all, bi_list, bi_listk, bi_listt, bi_tuple, bi_tuplet, io_lst, io_klst, io_tup, k_nil, k_cons, k_asg, k_asgS, k_asgN, k_setix, k_ex, k_ret, k_retN, k_iff, k_whl, k_for, k_brk, k_cont, lo_nil, lo_cons, li_some, as_nm, as_tup, as_0, as_s, f_rt, f_own, f_nx, R.bind_ok, R.of_some, Option.bind_some, Option.map_some, List.length_cons, List.length_nil, List.set_cons_zero, List.set_cons_succ, List.map_cons, List.map_nil, List.replicate, List.cons_append, List.nil_append, if_true, if_false, Bool.false_eq_true, i_ife, i_lst, eq_int, e1, e2, q1, q2, q3, q4, q5, q6, q7, q8, y1, y2, Mt.lv, pl]
  rw [if_neg h0]
  have st : ∀ E : Env, semB (C (n + 1)) gs 100000 b34 [some (.d (fr a)), some (.d (fr b)), some (.d (fr c)), some (.d (fr d)), none, none, none, none, none, none, none, none, none] S = semB (C (n + 1)) gs 100000 (b34.drop 1) [some (.d (fr a)), some (.d (fr b)), some (.d (fr c)), some (.d (fr d)), none, none, none, none, none, none, none, none, none] S := fun _ => by
    by_cases z : x = 0
    · subst z
      have z2 : (y == 0) = false := by simpa using fun q => h0 ⟨rfl, q⟩
      simp only [b34, e_kN, e_kB, e_kI, e_kS, e_var, e_glb, e_fnv, e_typ, e_neg, e_bin, e_cmp, e_chn, e_and, e_or, e_not, e_ife, e_tup, e_lst, e_ix, e_slc, e_call, e_bi, e_mt, e_lc, e_dc, t_and, t_or, t_not, t_var, t_cmp, t_chn, t_call, t_bi, t_ix, i_var, i_call, i_bi, i_rng, i_zip, ss_nil, ss_cons, so_none, so_some, ea_nil, ea_cons, an_1, an_2, or_1, or_2, tan_1, tan_2, tor_1, tor_2, tal_0, tal_1, ep_0, ep_1, st_, st2_, tu_nil, tu_c, w_0, w_s, ca_ok, at1, at2_0, at2_1, at4_0, at4_1, at4_2, at4_3, bo_nil, bo_c, io_nil, io_c, is_int, is_intb, is_tup, g_0, g_s, p_d, p_own, p_ref, d_d, d_own, a_d, a_own, a_ref, c_lst, c_dct, pk_nil, pk_cons, sa_nil, sa_cons, ao_nil, ao_cons, b_add, b_sub, b_mul, b_div, b_mod, b_pow, b_cat, n_int, n_bl, cv, c_eq, c_ne, c_lt, c_le, c_gt, c_ge, c_in, c_notIn, eq_int, x_lst, x_tup, x_dct, tr_bl, tr_int, bi_len, bi_lent, bi_abs, bi_int, bi_all, bi_list, bi_listk, bi_listt, bi_tuple, bi_tuplet, io_lst, io_klst, io_tup, k_nil, k_cons, k_asg, k_asgS, k_asgN, k_setix, k_ex, k_ret, k_retN, k_iff, k_whl, k_for, k_brk, k_cont, lo_nil, lo_cons, li_some, as_nm, as_tup, as_0, as_s, f_rt, f_own, f_nx, R.bind_ok, R.of_some, Option.bind_some, Option.map_some, List.length_cons, List.length_nil, List.set_cons_zero, List.set_cons_succ, List.map_cons, List.map_nil, List.replicate, List.cons_append, List.nil_append, if_true, if_false, Bool.false_eq_true, eq_int, e1, e2, z2, List.drop_succ_cons, List.drop_zero, beq_self_eq_true]
    · have z' : (x == 0) = false := by simpa using z
      simp only [b34, e_kN, e_kB, e_kI, e_kS, e_var, e_glb, e_fnv, e_typ, e_neg, e_bin, e_cmp, e_chn, e_and, e_or, e_not, e_ife, e_tup, e_lst, e_ix, e_slc, e_call, e_bi, e_mt, e_lc, e_dc, t_and, t_or, t_not, t_var, t_cmp, t_chn, t_call, t_bi, t_ix, i_var, i_call, i_bi, i_rng, i_zip, ss_nil, ss_cons, so_none, so_some, ea_nil, ea_cons, an_1, an_2, or_1, or_2, tan_1, tan_2, tor_1, tor_2, tal_0, tal_1, ep_0, ep_1, st_, st2_, tu_nil, tu_c, w_0, w_s, ca_ok, at1, at2_0, at2_1, at4_0, at4_1, at4_2, at4_3, bo_nil, bo_c, io_nil, io_c, is_int, is_intb, is_tup, g_0, g_s, p_d, p_own, p_ref, d_d, d_own, a_d, a_own, a_ref, c_lst, c_dct, pk_nil, pk_cons, sa_nil, sa_cons, ao_nil, ao_cons, b_add, b_sub, b_mul, b_div, b_mod, b_pow, b_cat, n_int, n_bl, cv, c_eq, c_ne, c_lt, c_le, c_gt, c_ge, c_in, c_notIn, eq_int, x_lst, x_tup, x_dct, tr_bl, tr_int, bi_len, bi_lent, bi_abs, bi_int, bi_all, bi_list, bi_listk, bi_listt, bi_tuple, bi_tuplet, io_lst, io_klst, io_tup, k_nil, k_cons, k_asg, k_asgS, k_asgN, k_setix, k_ex, k_ret, k_retN, k_iff, k_whl, k_for, k_brk, k_cont, lo_nil, lo_cons, li_some, as_nm, as_tup, as_0, as_s, f_rt, f_own, f_nx, R.bind_ok, R.of_some, Option.bind_some, Option.map_some, List.length_cons, List.length_nil, List.set_cons_zero, List.set_cons_succ, List.map_cons, List.map_nil, List.replicate, List.cons_append, List.nil_append, if_true, if_false, Bool.false_eq_true, eq_int, e1, e2, z', List.drop_succ_cons, List.drop_zero]
  have bw := B3.sub B4
  have m1 := cmul_ok B3 bw (by omega)
  have m2 := cmul_ok bw bw (by omega)
  have m3 := cmul_ok ha.a bw (by omega)
  have m4 := cmul_ok ha.b bw (by omega)
  have m5 := cmul_ok B3 (hb.a.sub ha.a) (by omega)
  have m6 := cmul_ok B3 (hb.b.sub ha.b) (by omega)
  have m7 := cmul_ok B1 B2 (by omega)
  show fin S.length (semB _ _ _ b34 [some (.d (fr a)), some (.d (fr b)), some (.d (fr c)), some (.d (fr d)), none, none, none, none, none, none, none, none, none] S) = _
  rw [st []]
  by_cases h1 : u - v = 0
  · rw [if_pos (.inl h1)]
    have h1' : (u - v == 0) = true := by simpa using h1
    simp [b34, e_kN, e_kB, e_kI, e_kS, e_var, e_glb, e_fnv, e_typ, e_neg, e_bin, e_cmp, e_chn, e_and, e_or, e_not, e_ife, e_tup, e_lst, e_ix, e_slc, e_call, e_bi, e_mt, e_lc, e_dc, t_and, t_or, t_not, t_var, t_cmp, t_chn, t_call, t_bi, t_ix, i_var, i_call, i_bi, i_rng, i_zip, ss_nil, ss_cons, so_none, so_some, ea_nil, ea_cons, an_1, an_2, or_1, or_2, tan_1, tan_2, tor_1, tor_2, tal_0, tal_1, ep_0, ep_1, st_, st2_, tu_nil, tu_c, w_0, w_s, ca_ok, at1, at2_0, at2_1, at4_0, at4_1, at4_2, at4_3, bo_nil, bo_c, io_nil, io_c, is_int, is_intb, is_tup, g_0, g_s, p_d, p_own, p_ref, d_d, d_own, a_d, a_own, a_ref, c_lst, c_dct, pk_nil, pk_cons, sa_nil, sa_cons, ao_nil, ao_cons, b_add, b_sub, b_mul, b_div, b_mod, b_pow, b_cat, n_int, n_bl, cv, c_eq, c_ne, c_lt, c_le, c_gt, c_ge, c_in, c_notIn, eq_int, x_lst, x_tup, x_dct, tr_bl, tr_int, bi_len, bi_lent, bi_abs, bi_int, bi_all, bi_list, bi_listk, bi_listt, bi_tuple, bi_tuplet, io_lst, io_klst, io_tup, k_nil, k_cons, k_asg, k_asgS, k_asgN, k_setix, k_ex, k_ret, k_retN, k_iff, k_whl, k_for, k_brk, k_cont, lo_nil, lo_cons, li_some, as_nm, as_tup, as_0, as_s, f_rt, f_own, f_nx, R.bind_ok, R.of_some, Option.bind_some, Option.map_some, List.length_cons, List.length_nil, List.set_cons_zero, List.set_cons_succ, List.map_cons, List.map_nil, List.replicate, List.cons_append, List.nil_append, if_true, if_false, Bool.false_eq_true, eq_int, e3, e4, h1', y2, Mt.lv]
  have h1' : (u - v == 0) = false := by simpa using h1
  by_cases h2 : u * (u - v) < 0
  · rw [if_pos (.inr (.inl h2))]
    simp [b34, e_kN, e_kB, e_kI, e_kS, e_var, e_glb, e_fnv, e_typ, e_neg, e_bin, e_cmp, e_chn, e_and, e_or, e_not, e_ife, e_tup, e_lst, e_ix, e_slc, e_call, e_bi, e_mt, e_lc, e_dc, t_and, t_or, t_not, t_var, t_cmp, t_chn, t_call, t_bi, t_ix, i_var, i_call, i_bi, i_rng, i_zip, ss_nil, ss_cons, so_none, so_some, ea_nil, ea_cons, an_1, an_2, or_1, or_2, tan_1, tan_2, tor_1, tor_2, tal_0, tal_1, ep_0, ep_1, st_, st2_, tu_nil, tu_c, w_0, w_s, ca_ok, at1, at2_0, at2_1, at4_0, at4_1, at4_2, at4_3, bo_nil, bo_c, io_nil, io_c, is_int, is_intb, is_tup, g_0, g_s, p_d, p_own, p_ref, d_d, d_own, a_d, a_own, a_ref, c_lst, c_dct, pk_nil, pk_cons, sa_nil, sa_cons, ao_nil, ao_cons, b_add, b_sub, b_mul, b_div, b_mod, b_pow, b_cat, n_int, n_bl, cv, c_eq, c_ne, c_lt, c_le, c_gt, c_ge, c_in, c_notIn, eq_int, x_lst, x_tup, x_dct, tr_bl, tr_int, bi_len, bi_lent, bi_abs, bi_int, bi_all, bi_list, bi_listk, bi_listt, bi_tuple, bi_tuplet, io_lst, io_klst, io_tup, k_nil, k_cons, k_asg, k_asgS, k_asgN, k_setix, k_ex, k_ret, k_retN, k_iff, k_whl, k_for, k_brk, k_cont, lo_nil, lo_cons, li_some, as_nm, as_tup, as_0, as_s, f_rt, f_own, f_nx, R.bind_ok, R.of_some, Option.bind_some, Option.map_some, List.length_cons, List.length_nil, List.set_cons_zero, List.set_cons_succ, List.map_cons, List.map_nil, List.replicate, List.cons_append, List.nil_append, if_true, if_false, Bool.false_eq_true, eq_int, e3, e4, h1', m1, h2, y2, Mt.lv]
  by_cases h3 : (u - v) * (u - v) < u * (u - v)
  · rw [if_pos (.inr (.inr h3))]
    simp [b34, e_kN, e_kB, e_kI, e_kS, e_var, e_glb, e_fnv, e_typ, e_neg, e_bin, e_cmp, e_chn, e_and, e_or, e_not, e_ife, e_tup, e_lst, e_ix, e_slc, e_call, e_bi, e_mt, e_lc, e_dc, t_and, t_or, t_not, t_var, t_cmp, t_chn, t_call, t_bi, t_ix, i_var, i_call, i_bi, i_rng, i_zip, ss_nil, ss_cons, so_none, so_some, ea_nil, ea_cons, an_1, an_2, or_1, or_2, tan_1, tan_2, tor_1, tor_2, tal_0, tal_1, ep_0, ep_1, st_, st2_, tu_nil, tu_c, w_0, w_s, ca_ok, at1, at2_0, at2_1, at4_0, at4_1, at4_2, at4_3, bo_nil, bo_c, io_nil, io_c, is_int, is_intb, is_tup, g_0, g_s, p_d, p_own, p_ref, d_d, d_own, a_d, a_own, a_ref, c_lst, c_dct, pk_nil, pk_cons, sa_nil, sa_cons, ao_nil, ao_cons, b_add, b_sub, b_mul, b_div, b_mod, b_pow, b_cat, n_int, n_bl, cv, c_eq, c_ne, c_lt, c_le, c_gt, c_ge, c_in, c_notIn, eq_int, x_lst, x_tup, x_dct, tr_bl, tr_int, bi_len, bi_lent, bi_abs, bi_int, bi_all, bi_list, bi_listk, bi_listt, bi_tuple, bi_tuplet, io_lst, io_klst, io_tup, k_nil, k_cons, k_asg, k_asgS, k_asgN, k_setix, k_ex, k_ret, k_retN, k_iff, k_whl, k_for, k_brk, k_cont, lo_nil, lo_cons, li_some, as_nm, as_tup, as_0, as_s, f_rt, f_own, f_nx, R.bind_ok, R.of_some, Option.bind_some, Option.map_some, List.length_cons, List.length_nil, List.set_cons_zero, List.set_cons_succ, List.map_cons, List.map_nil, List.replicate, List.cons_append, List.nil_append, if_true, if_false, Bool.false_eq_true, eq_int, e3, e4, h1', m1, m2, h2, h3, y2, Mt.lv]
  rw [if_neg (fun z => z.elim h1 fun z => z.elim h2 h3)]
  have f1 := llow_run n (a.1 * (u - v) + u * (b.1 - a.1)) (u - v) S h1 ((((ha.a.mul bw).mono (l := 30) (by omega)).add ((B3.mul (hb.a.sub ha.a)).mono (by omega))).mono (by omega)) (bw.mono (by omega))
  have f2 := llow_run n (a.2 * (u - v) + u * (b.2 - a.2)) (u - v) S h1 ((((ha.b.mul bw).mono (l := 30) (by omega)).add ((B3.mul (hb.b.sub ha.b)).mono (by omega))).mono (by omega)) (bw.mono (by omega))
  by_cases h4 : x * y ≤ 0
  · rw [if_pos h4]
    simp [b34, e_kN, e_kB, e_kI, e_kS, e_var, e_glb, e_fnv, e_typ, e_neg, e_bin, e_cmp, e_chn, e_and, e_or, e_not, e_ife, e_tup, e_lst, e_ix, e_slc, e_call, e_bi, e_mt, e_lc, e_dc, t_and, t_or, t_not, t_var, t_cmp, t_chn, t_call, t_bi, t_ix, i_var, i_call, i_bi, i_rng, i_zip, ss_nil, ss_cons, so_none, so_some, ea_nil, ea_cons, an_1, an_2, or_1, or_2, tan_1, tan_2, tor_1, tor_2, tal_0, tal_1, ep_0, ep_1, st_, st2_, tu_nil, tu_c, w_0, w_s, ca_ok, at1, at2_0, at2_1, at4_0, at4_1, at4_2, at4_3, bo_nil, bo_c, io_nil, io_c, is_int, is_intb, is_tup, g_0, g_s, p_d, p_own, p_ref, d_d, d_own, a_d, a_own, a_ref, c_lst, c_dct, pk_nil, pk_cons, sa_nil, sa_cons, ao_nil, ao_cons, b_add, b_sub, b_mul, b_div, b_mod, b_pow, b_cat, n_int, n_bl, cv, c_eq, c_ne, c_lt, c_le, c_gt, c_ge, c_in, c_notIn, eq_int, x_lst, x_tup, x_dct, tr_bl, tr_int, bi_len, bi_lent, bi_abs, bi_int, bi_all, bi_list, bi_listk, bi_listt, bi_tuple, bi_tuplet, io_lst, io_klst, io_tup, k_nil, k_cons, k_asg, k_asgS, k_asgN, k_setix, k_ex, k_ret, k_retN, k_iff, k_whl, k_for, k_brk, k_cont, lo_nil, lo_cons, li_some, as_nm, as_tup, as_0, as_s, f_rt, f_own, f_nx, R.bind_ok, R.of_some, Option.bind_some, Option.map_some, List.length_cons, List.length_nil, List.set_cons_zero, List.set_cons_succ, List.map_cons, List.map_nil, List.replicate, List.cons_append, List.nil_append, if_true, if_false, Bool.false_eq_true, i_lst, eq_int, e1, e2, e3, e4, h1', m1, m2, m3, m4, m5, m6, m7, h2, h3, h4, f1, f2, y1, y2, Mt.lv]
  · rw [if_neg h4]
    simp [b34, e_kN, e_kB, e_kI, e_kS, e_var, e_glb, e_fnv, e_typ, e_neg, e_bin, e_cmp, e_chn, e_and, e_or, e_not, e_ife, e_tup, e_lst, e_ix, e_slc, e_call, e_bi, e_mt, e_lc, e_dc, t_and, t_or, t_not, t_var, t_cmp, t_chn, t_call, t_bi, t_ix, i_var, i_call, i_bi, i_rng, i_zip, ss_nil, ss_cons, so_none, so_some, ea_nil, ea_cons, an_1, an_2, or_1, or_2, tan_1, tan_2, tor_1, tor_2, tal_0, tal_1, ep_0, ep_1, st_, st2_, tu_nil, tu_c, w_0, w_s, ca_ok, at1, at2_0, at2_1, at4_0, at4_1, at4_2, at4_3, bo_nil, bo_c, io_nil, io_c, is_int, is_intb, is_tup, g_0, g_s, p_d, p_own, p_ref, d_d, d_own, a_d, a_own, a_ref, c_lst, c_dct, pk_nil, pk_cons, sa_nil, sa_cons, ao_nil, ao_cons, b_add, b_sub, b_mul, b_div, b_mod, b_pow, b_cat, n_int, n_bl, cv, c_eq, c_ne, c_lt, c_le, c_gt, c_ge, c_in, c_notIn, eq_int, x_lst, x_tup, x_dct, tr_bl, tr_int, bi_len, bi_lent, bi_abs, bi_int, bi_all, bi_list, bi_listk, bi_listt, bi_tuple, bi_tuplet, io_lst, io_klst, io_tup, k_nil, k_cons, k_asg, k_asgS, k_asgN, k_setix, k_ex, k_ret, k_retN, k_iff, k_whl, k_for, k_brk, k_cont, lo_nil, lo_cons, li_some, as_nm, as_tup, as_0, as_s, f_rt, f_own, f_nx, R.bind_ok, R.of_some, Option.bind_some, Option.map_some, List.length_cons, List.length_nil, List.set_cons_zero, List.set_cons_succ, List.map_cons, List.map_nil, List.replicate, List.cons_append, List.nil_append, if_true, if_false, Bool.false_eq_true, i_lst, eq_int, e1, e2, e3, e4, h1', m1, m2, m3, m4, m5, m6, m7, h2, h3, h4, f1, f2, y1, y2, Mt.lv]
end K03

set_option maxHeartbeats 4000000
namespace K03
open Mi
open PySem (Str PyData)
structure MtB (k : Nat) (m : Mt) : Prop where
  one : ∀ p, m = .pt1 p → NmP p ∧ BP k p
  two : ∀ p q, m = .seg p q → NmP p ∧ NmP q ∧ BP k p ∧ BP k q
theorem ah_or (P Q : Pt) : (if ls P.1 Q.1 = true then true else if decide (P.1 = Q.1) = true then ls P.2 Q.2 else false) = ah P Q := by
  unfold ah
  by_cases h : P.1 = Q.1
  · rw [if_pos h, decide_eq_true h, if_pos rfl]
    have : ls P.1 Q.1 = false := by rw [h]; unfold ls; simp
    rw [this]
    simp
  · rw [if_neg h, decide_eq_false h]
    cases ls P.1 Q.1 <;> simp
theorem told_run (n : Nat) (f : Fm) (m : Mt) (S : Store) {k : Nat} (hk : k ≤ 400) (hf : FmOk f) (h : MtB k m) : C (n + 3) 35 [.d (fm f), .d m.l] S = .ok (.d (img f m).d) S := by
  have y2 : 2 ≤ PySem.sizeLine := by decide
  have y3 : 3 ≤ PySem.sizeLine := by decide
  rw [call_at (fd := ⟨2, 7, b35⟩) rfl, r_run _ _ _ _ _ _ rfl]
  cases m with
  | no => simp [b35, e_kN, e_kB, e_kI, e_kS, e_var, e_glb, e_fnv, e_typ, e_neg, e_bin, e_cmp, e_chn, e_and, e_or, e_not, e_ife, e_tup, e_lst, e_ix, e_slc, e_call, e_bi, e_mt, e_lc, e_dc, t_and, t_or, t_not, t_var, t_cmp, t_chn, t_call, t_bi, t_ix, i_var, i_call, i_bi, i_rng, i_zip, ss_nil, ss_cons, so_none, so_some, ea_nil, ea_cons, an_1, an_2, or_1, or_2, tan_1, tan_2, tor_1, tor_2, tal_0, tal_1, ep_0, ep_1, st_, st2_, tu_nil, tu_c, w_0, w_s, ca_ok, at1, at2_0, at2_1, at4_0, at4_1, at4_2, at4_3, bo_nil, bo_c, io_nil, io_c, is_int, is_intb, is_tup, g_0, g_s, p_d, p_own, p_ref, d_d, d_own, a_d, a_own, a_ref, c_lst, c_dct, pk_nil, pk_cons, sa_nil, sa_cons, ao_nil, ao_cons, b_add, b_sub, b_mul, b_div, b_mod, b_pow, b_cat, n_int, n_bl, cv, c_eq, c_ne, c_lt, c_le, c_gt, c_ge, c_in, c_notIn, eq_int, x_lst, x_tup, x_dct, tr_bl, tr_int, bi_len, bi_lent, bi_abs, bi_int, bi_all, bi_list, bi_listk, bi_listt, bi_tuple, bi_tuplet, io_lst, io_klst, io_tup, k_nil, k_cons, k_asg, k_asgS, k_asgN, k_setix, k_ex, k_ret, k_retN, k_iff, k_whl, k_for, k_brk, k_cont, lo_nil, lo_cons, li_some, as_nm, as_tup, as_0, as_s, f_rt, f_own, f_nx, R.bind_ok, R.of_some, Option.bind_some, Option.map_some, List.length_cons, List.length_nil, List.set_cons_zero, List.set_cons_succ, List.map_cons, List.map_nil, List.replicate, List.cons_append, List.nil_append, if_true, if_false, Bool.false_eq_true, Mt.l, Mt.d, img, cmpD, isNon]
  | pt1 p =>
    obtain ⟨np, bp⟩ := h.one p rfl
    obtain ⟨e1, _, _⟩ := point_run n f p S (k := k) hk hf bp np
    have c1 : cmpD .Is (.lst [pt p]) .non = some false := rfl
    simp [b35, e_kN, e_kB, e_kI, e_kS, e_var, e_glb, e_fnv, e_typ, e_neg, e_bin, e_cmp, e_chn, e_and, e_or, e_not, e_ife, e_tup, e_lst, e_ix, e_slc, e_call, e_bi, e_mt, e_lc, e_dc, t_and, t_or, t_not, t_var, t_cmp, t_chn, t_call, t_bi, t_ix, i_var, i_call, i_bi, i_rng, i_zip, ss_nil, ss_cons, so_none, so_some, ea_nil, ea_cons, an_1, an_2, or_1, or_2, tan_1, tan_2, tor_1, tor_2, tal_0, tal_1, ep_0, ep_1, st_, st2_, tu_nil, tu_c, w_0, w_s, ca_ok, at1, at2_0, at2_1, at4_0, at4_1, at4_2, at4_3, bo_nil, bo_c, io_nil, io_c, is_int, is_intb, is_tup, g_0, g_s, p_d, p_own, p_ref, d_d, d_own, a_d, a_own, a_ref, c_lst, c_dct, pk_nil, pk_cons, sa_nil, sa_cons, ao_nil, ao_cons, b_add, b_sub, b_mul, b_div, b_mod, b_pow, b_cat, n_int, n_bl, cv, c_eq, c_ne, c_lt, c_le, c_gt, c_ge, c_in, c_notIn, eq_int, x_lst, x_tup, x_dct, tr_bl, tr_int, bi_len, bi_lent, bi_abs, bi_int, bi_all, bi_list, bi_listk, bi_listt, bi_tuple, bi_tuplet, io_lst, io_klst, io_tup, k_nil, k_cons, k_asg, k_asgS, k_asgN, k_setix, k_ex, k_ret, k_retN, k_iff, k_whl, k_for, k_brk, k_cont, lo_nil, lo_cons, li_some, as_nm, as_tup, as_0, as_s, f_rt, f_own, f_nx, R.bind_ok, R.of_some, Option.bind_some, Option.map_some, List.length_cons, List.length_nil, List.set_cons_zero, List.set_cons_succ, List.map_cons, List.map_nil, List.replicate, List.cons_append, List.nil_append, if_true, if_false, Bool.false_eq_true, Mt.l, Mt.d, img, c1, e1, eq_int, y2]
  | seg p q =>
    obtain ⟨np, nq, bp, bq⟩ := h.two p q rfl
    obtain ⟨e1, b1, _⟩ := point_run n f p S (k := k) hk hf bp np
    obtain ⟨e2, b2, _⟩ := point_run n f q S (k := k) hk hf bq nq
    have c1 : cmpD .Is (.lst [pt p, pt q]) .non = some false := rfl
    have al : ∀ (x y : D) (E : Env), asgT (.seq [.nm 4, .nm 5]) (.lst [x, y]) E = asgTs [.nm 4, .nm 5] [x, y] E := fun _ _ _ => rfl
    have im : img f (.seg p q) = if ah (mk f p) (mk f q) = true then .seg (mk f p) (mk f q) else .seg (mk f q) (mk f p) := rfl
    rw [im]
    generalize mk f p = P at *
    generalize mk f q = Q at *
    have a1 := lahead_run (n + 1) P.1 Q.1 S (k := 23 + k + k) (by omega) b1.a b2.a
    have a2 := lahead_run (n + 1) P.2 Q.2 S (k := 23 + k + k) (by omega) b1.b b2.b
    have q1 := eq_fr P.1 Q.1
    have w := ah_or P Q
    cases g1 : ls P.1 Q.1 with
    | true =>
      rw [g1] at a1 w
      rw [if_pos rfl] at w
      rw [← w, if_pos rfl]
      simp [b35, e_kN, e_kB, e_kI, e_kS, e_var, e_glb, e_fnv, e_typ, e_neg, e_bin, e_cmp, e_chn, e_and, e_or, e_not, e_ife, e_tup, e_lst, e_ix, e_slc, e_call, e_bi, e_mt, e_lc, e_dc, t_and, t_or, t_not, t_var, t_cmp, t_chn, t_call, t_bi, t_ix, i_var, i_call, i_bi, i_rng, i_zip, ss_nil, ss_cons, so_none, so_some, ea_nil, ea_cons, an_1, an_2, or_1, or_2, tan_1, tan_2, tor_1, tor_2, tal_0, tal_1, ep_0, ep_1, st_, st2_, tu_nil, tu_c, w_0, w_s, ca_ok, at1, at2_0, at2_1, at4_0, at4_1, at4_2, at4_3, bo_nil, bo_c, io_nil, io_c, is_int, is_intb, is_tup, g_0, g_s, p_d, p_own, p_ref, d_d, d_own, a_d, a_own, a_ref, c_lst, c_dct, pk_nil, pk_cons, sa_nil, sa_cons, ao_nil, ao_cons, b_add, b_sub, b_mul, b_div, b_mod, b_pow, b_cat, n_int, n_bl, cv, c_eq, c_ne, c_lt, c_le, c_gt, c_ge, c_in, c_notIn, eq_int, x_lst, x_tup, x_dct, tr_bl, tr_int, bi_len, bi_lent, bi_abs, bi_int, bi_all, bi_list, bi_listk, bi_listt, bi_tuple, bi_tuplet, io_lst, io_klst, io_tup, k_nil, k_cons, k_asg, k_asgS, k_asgN, k_setix, k_ex, k_ret, k_retN, k_iff, k_whl, k_for, k_brk, k_cont, lo_nil, lo_cons, li_some, as_nm, as_tup, as_0, as_s, f_rt, f_own, f_nx, R.bind_ok, R.of_some, Option.bind_some, Option.map_some, List.length_cons, List.length_nil, List.set_cons_zero, List.set_cons_succ, List.map_cons, List.map_nil, List.replicate, List.cons_append, List.nil_append, if_true, if_false, Bool.false_eq_true, Mt.l, Mt.d, c1, e1, e2, a1, al, eq_int, y3]
    | false =>
      rw [g1] at a1 w
      rw [if_neg (by simp)] at w
      by_cases g2 : P.1 = Q.1
      · rw [decide_eq_true g2, if_pos rfl] at w
        rw [decide_eq_true g2] at q1
        rw [← w]
        cases g3 : ls P.2 Q.2 <;> rw [g3] at a2 <;> simp [b35, e_kN, e_kB, e_kI, e_kS, e_var, e_glb, e_fnv, e_typ, e_neg, e_bin, e_cmp, e_chn, e_and, e_or, e_not, e_ife, e_tup, e_lst, e_ix, e_slc, e_call, e_bi, e_mt, e_lc, e_dc, t_and, t_or, t_not, t_var, t_cmp, t_chn, t_call, t_bi, t_ix, i_var, i_call, i_bi, i_rng, i_zip, ss_nil, ss_cons, so_none, so_some, ea_nil, ea_cons, an_1, an_2, or_1, or_2, tan_1, tan_2, tor_1, tor_2, tal_0, tal_1, ep_0, ep_1, st_, st2_, tu_nil, tu_c, w_0, w_s, ca_ok, at1, at2_0, at2_1, at4_0, at4_1, at4_2, at4_3, bo_nil, bo_c, io_nil, io_c, is_int, is_intb, is_tup, g_0, g_s, p_d, p_own, p_ref, d_d, d_own, a_d, a_own, a_ref, c_lst, c_dct, pk_nil, pk_cons, sa_nil, sa_cons, ao_nil, ao_cons, b_add, b_sub, b_mul, b_div, b_mod, b_pow, b_cat, n_int, n_bl, cv, c_eq, c_ne, c_lt, c_le, c_gt, c_ge, c_in, c_notIn, eq_int, x_lst, x_tup, x_dct, tr_bl, tr_int, bi_len, bi_lent, bi_abs, bi_int, bi_all, bi_list, bi_listk, bi_listt, bi_tuple, bi_tuplet, io_lst, io_klst, io_tup, k_nil, k_cons, k_asg, k_asgS, k_asgN, k_setix, k_ex, k_ret, k_retN, k_iff, k_whl, k_for, k_brk, k_cont, lo_nil, lo_cons, li_some, as_nm, as_tup, as_0, as_s, f_rt, f_own, f_nx, R.bind_ok, R.of_some, Option.bind_some, Option.map_some, List.length_cons, List.length_nil, List.set_cons_zero, List.set_cons_succ, List.map_cons, List.map_nil, List.replicate, List.cons_append, List.nil_append, if_true, if_false, Bool.false_eq_true, Mt.l, Mt.d, c1, e1, e2, a1, a2, q1, al, eq_int, y3]
      · rw [decide_eq_false g2, if_neg (by simp)] at w
        rw [decide_eq_false g2] at q1
        rw [← w]
        simp [b35, e_kN, e_kB, e_kI, e_kS, e_var, e_glb, e_fnv, e_typ, e_neg, e_bin, e_cmp, e_chn, e_and, e_or, e_not, e_ife, e_tup, e_lst, e_ix, e_slc, e_call, e_bi, e_mt, e_lc, e_dc, t_and, t_or, t_not, t_var, t_cmp, t_chn, t_call, t_bi, t_ix, i_var, i_call, i_bi, i_rng, i_zip, ss_nil, ss_cons, so_none, so_some, ea_nil, ea_cons, an_1, an_2, or_1, or_2, tan_1, tan_2, tor_1, tor_2, tal_0, tal_1, ep_0, ep_1, st_, st2_, tu_nil, tu_c, w_0, w_s, ca_ok, at1, at2_0, at2_1, at4_0, at4_1, at4_2, at4_3, bo_nil, bo_c, io_nil, io_c, is_int, is_intb, is_tup, g_0, g_s, p_d, p_own, p_ref, d_d, d_own, a_d, a_own, a_ref, c_lst, c_dct, pk_nil, pk_cons, sa_nil, sa_cons, ao_nil, ao_cons, b_add, b_sub, b_mul, b_div, b_mod, b_pow, b_cat, n_int, n_bl, cv, c_eq, c_ne, c_lt, c_le, c_gt, c_ge, c_in, c_notIn, eq_int, x_lst, x_tup, x_dct, tr_bl, tr_int, bi_len, bi_lent, bi_abs, bi_int, bi_all, bi_list, bi_listk, bi_listt, bi_tuple, bi_tuplet, io_lst, io_klst, io_tup, k_nil, k_cons, k_asg, k_asgS, k_asgN, k_setix, k_ex, k_ret, k_retN, k_iff, k_whl, k_for, k_brk, k_cont, lo_nil, lo_cons, li_some, as_nm, as_tup, as_0, as_s, f_rt, f_own, f_nx, R.bind_ok, R.of_some, Option.bind_some, Option.map_some, List.length_cons, List.length_nil, List.set_cons_zero, List.set_cons_succ, List.map_cons, List.map_nil, List.replicate, List.cons_append, List.nil_append, if_true, if_false, Bool.false_eq_true, Mt.l, Mt.d, c1, e1, e2, a1, a2, q1, al, eq_int, y3]
theorem sm_B {k : Nat} {i : Int} (N : Nat) (h : -(N : Int) ≤ i) (h2 : i ≤ N) (e : N < 2 ^ k) : B k i := by unfold B; omega
structure In (N : Nat) (P : Int × Int) : Prop where
  a : -(N : Int) ≤ P.1
  b : P.1 ≤ N
  c : -(N : Int) ≤ P.2
  d : P.2 ≤ N
theorem In.bp {N : Nat} {P : Int × Int} (h : In N P) (e : N < 64) : Bp 6 P := ⟨sm_B N h.a h.b (by omega), sm_B N h.c h.d (by omega)⟩
theorem In.mono {N M : Nat} {P : Int × Int} (h : In N P) (e : N ≤ M) : In M P := by obtain ⟨h1, h2, h3, h4⟩ := h; constructor <;> omega
theorem place_run (n : Nat) (ns : List Int) (S : Store) (c : Cur ns S) : ∃ P S', C (n + 2) 36 [.ref 0] S = .ok (.d (fr P)) S' ∧ In 3 P ∧ Cur ns S' := by
  obtain ⟨i, S1, e1, i0, i1, c1⟩ := draw_run n ns S 7 c (by omega) (by decide)
  obtain ⟨j, S2, e2, j0, j1, c2⟩ := draw_run n ns S1 7 c1 (by omega) (by decide)
  have y2 : 2 ≤ PySem.sizeLine := by decide
  refine ⟨(i - 3, j - 3), S2, ?_, ⟨by show -3 ≤ i - 3; omega, by show i - 3 ≤ 3; omega, by show -3 ≤ j - 3; omega, by show j - 3 ≤ 3; omega⟩, c2⟩
  rw [call_at (fd := ⟨1, 1, b36⟩) rfl, r_run _ _ _ _ _ _ rfl]
  obtain ⟨p', q', s', rfl, _⟩ := c2.ex
  obtain ⟨p, q, s, rfl, _⟩ := c.ex
  simp [b36, e_kN, e_kB, e_kI, e_kS, e_var, e_glb, e_fnv, e_typ, e_neg, e_bin, e_cmp, e_chn, e_and, e_or, e_not, e_ife, e_tup, e_lst, e_ix, e_slc, e_call, e_bi, e_mt, e_lc, e_dc, t_and, t_or, t_not, t_var, t_cmp, t_chn, t_call, t_bi, t_ix, i_var, i_call, i_bi, i_rng, i_zip, ss_nil, ss_cons, so_none, so_some, ea_nil, ea_cons, an_1, an_2, or_1, or_2, tan_1, tan_2, tor_1, tor_2, tal_0, tal_1, ep_0, ep_1, st_, st2_, tu_nil, tu_c, w_0, w_s, ca_ok, at1, at2_0, at2_1, at4_0, at4_1, at4_2, at4_3, bo_nil, bo_c, io_nil, io_c, is_int, is_intb, is_tup, g_0, g_s, p_d, p_own, p_ref, d_d, d_own, a_d, a_own, a_ref, c_lst, c_dct, pk_nil, pk_cons, sa_nil, sa_cons, ao_nil, ao_cons, b_add, b_sub, b_mul, b_div, b_mod, b_pow, b_cat, n_int, n_bl, cv, c_eq, c_ne, c_lt, c_le, c_gt, c_ge, c_in, c_notIn, eq_int, x_lst, x_tup, x_dct, tr_bl, tr_int, bi_len, bi_lent, bi_abs, bi_int, bi_all, bi_list, bi_listk, bi_listt, bi_tuple, bi_tuplet, io_lst, io_klst, io_tup, k_nil, k_cons, k_asg, k_asgS, k_asgN, k_setix, k_ex, k_ret, k_retN, k_iff, k_whl, k_for, k_brk, k_cont, lo_nil, lo_cons, li_some, as_nm, as_tup, as_0, as_s, f_rt, f_own, f_nx, R.bind_ok, R.of_some, Option.bind_some, Option.map_some, List.length_cons, List.length_nil, List.set_cons_zero, List.set_cons_succ, List.map_cons, List.map_nil, List.replicate, List.cons_append, List.nil_append, if_true, if_false, Bool.false_eq_true, e1, e2, y2]
theorem other_run (n : Nat) (ns : List Int) (S : Store) (c : Cur ns S) (P : Int × Int) {N : Nat} (hP : In N P) (hN : 3 ≤ N) : ∃ Q S', C (n + 3) 37 [.ref 0, .d (fr P)] S = .ok (.d (fr Q)) S' ∧ In (N + 2) Q ∧ P ≠ Q ∧ Cur ns S' := by
  obtain ⟨T, S1, e1, hR, c1⟩ := place_run n ns S c
  have w := eq_fr T P
  have y2 : 2 ≤ PySem.sizeLine := by decide
  obtain ⟨h1, h2, h3, h4⟩ := hP
  by_cases z : T = P
  · obtain ⟨j, S2, e2, j0, j1, c2⟩ := draw_run (n + 1) ns S1 3 c1 (by omega) (by decide)
    rw [decide_eq_true z] at w
    refine ⟨(P.1 + 1, P.2 - j), S2, ?_, ⟨by show -((N + 2 : Nat) : Int) ≤ P.1 + 1; omega, by show P.1 + 1 ≤ ((N + 2 : Nat) : Int); omega, by show -((N + 2 : Nat) : Int) ≤ P.2 - j; omega, by show P.2 - j ≤ ((N + 2 : Nat) : Int); omega⟩, fun e => ?_, c2⟩
    · rw [call_at (fd := ⟨2, 3, b37⟩) rfl, r_run _ _ _ _ _ _ rfl]
      obtain ⟨p', q', s', rfl, _⟩ := c2.ex
      obtain ⟨p, q, s, rfl, _⟩ := c.ex
      simp [b37, e_kN, e_kB, e_kI, e_kS, e_var, e_glb, e_fnv, e_typ, e_neg, e_bin, e_cmp, e_chn, e_and, e_or, e_not, e_ife, e_tup, e_lst, e_ix, e_slc, e_call, e_bi, e_mt, e_lc, e_dc, t_and, t_or, t_not, t_var, t_cmp, t_chn, t_call, t_bi, t_ix, i_var, i_call, i_bi, i_rng, i_zip, ss_nil, ss_cons, so_none, so_some, ea_nil, ea_cons, an_1, an_2, or_1, or_2, tan_1, tan_2, tor_1, tor_2, tal_0, tal_1, ep_0, ep_1, st_, st2_, tu_nil, tu_c, w_0, w_s, ca_ok, at1, at2_0, at2_1, at4_0, at4_1, at4_2, at4_3, bo_nil, bo_c, io_nil, io_c, is_int, is_intb, is_tup, g_0, g_s, p_d, p_own, p_ref, d_d, d_own, a_d, a_own, a_ref, c_lst, c_dct, pk_nil, pk_cons, sa_nil, sa_cons, ao_nil, ao_cons, b_add, b_sub, b_mul, b_div, b_mod, b_pow, b_cat, n_int, n_bl, cv, c_eq, c_ne, c_lt, c_le, c_gt, c_ge, c_in, c_notIn, eq_int, x_lst, x_tup, x_dct, tr_bl, tr_int, bi_len, bi_lent, bi_abs, bi_int, bi_all, bi_list, bi_listk, bi_listt, bi_tuple, bi_tuplet, io_lst, io_klst, io_tup, k_nil, k_cons, k_asg, k_asgS, k_asgN, k_setix, k_ex, k_ret, k_retN, k_iff, k_whl, k_for, k_brk, k_cont, lo_nil, lo_cons, li_some, as_nm, as_tup, as_0, as_s, f_rt, f_own, f_nx, R.bind_ok, R.of_some, Option.bind_some, Option.map_some, List.length_cons, List.length_nil, List.set_cons_zero, List.set_cons_succ, List.map_cons, List.map_nil, List.replicate, List.cons_append, List.nil_append, if_true, if_false, Bool.false_eq_true, e1, e2, w, y2]
    · have := congrArg (·.1) e
      simp at this
      omega
  · rw [decide_eq_false z] at w
    refine ⟨T, S1, ?_, hR.mono (by omega), fun e => z e.symm, c1⟩
    rw [call_at (fd := ⟨2, 3, b37⟩) rfl, r_run _ _ _ _ _ _ rfl]
    obtain ⟨p', q', s', rfl, _⟩ := c1.ex
    obtain ⟨p, q, s, rfl, _⟩ := c.ex
    simp [b37, e_kN, e_kB, e_kI, e_kS, e_var, e_glb, e_fnv, e_typ, e_neg, e_bin, e_cmp, e_chn, e_and, e_or, e_not, e_ife, e_tup, e_lst, e_ix, e_slc, e_call, e_bi, e_mt, e_lc, e_dc, t_and, t_or, t_not, t_var, t_cmp, t_chn, t_call, t_bi, t_ix, i_var, i_call, i_bi, i_rng, i_zip, ss_nil, ss_cons, so_none, so_some, ea_nil, ea_cons, an_1, an_2, or_1, or_2, tan_1, tan_2, tor_1, tor_2, tal_0, tal_1, ep_0, ep_1, st_, st2_, tu_nil, tu_c, w_0, w_s, ca_ok, at1, at2_0, at2_1, at4_0, at4_1, at4_2, at4_3, bo_nil, bo_c, io_nil, io_c, is_int, is_intb, is_tup, g_0, g_s, p_d, p_own, p_ref, d_d, d_own, a_d, a_own, a_ref, c_lst, c_dct, pk_nil, pk_cons, sa_nil, sa_cons, ao_nil, ao_cons, b_add, b_sub, b_mul, b_div, b_mod, b_pow, b_cat, n_int, n_bl, cv, c_eq, c_ne, c_lt, c_le, c_gt, c_ge, c_in, c_notIn, eq_int, x_lst, x_tup, x_dct, tr_bl, tr_int, bi_len, bi_lent, bi_abs, bi_int, bi_all, bi_list, bi_listk, bi_listt, bi_tuple, bi_tuplet, io_lst, io_klst, io_tup, k_nil, k_cons, k_asg, k_asgS, k_asgN, k_setix, k_ex, k_ret, k_retN, k_iff, k_whl, k_for, k_brk, k_cont, lo_nil, lo_cons, li_some, as_nm, as_tup, as_0, as_s, f_rt, f_own, f_nx, R.bind_ok, R.of_some, Option.bind_some, Option.map_some, List.length_cons, List.length_nil, List.set_cons_zero, List.set_cons_succ, List.map_cons, List.map_nil, List.replicate, List.cons_append, List.nil_append, if_true, if_false, Bool.false_eq_true, e1, w, y2]
theorem ends_tail (n : Nat) (ns : List Int) (S : Store) (c : Cur ns S) (P : Int × Int) {N : Nat} (hP : In N P) (hN : 3 ≤ N) (v1 v2 v3 v5 v6 v7 v8 : Option Val) : ∃ Q S', semS (C (n + 3)) gs 100000 (.ret (.tup [(.var 4), (.call 37 [(.var 0), (.var 4)])])) [some (.ref 0), v1, v2, v3, some (.d (fr P)), v5, v6, v7, v8] S = .ok (.rt (.d (.tup [fr P, fr Q])), [some (.ref 0), v1, v2, v3, some (.d (fr P)), v5, v6, v7, v8]) S' ∧ In (N + 2) Q ∧ P ≠ Q ∧ Cur ns S' := by
  obtain ⟨Q, S1, e1, hQ, ne, c1⟩ := other_run n ns S c P hP hN
  have y2 : 2 ≤ PySem.sizeLine := by decide
  refine ⟨Q, S1, ?_, hQ, ne, c1⟩
  simp [e_kN, e_kB, e_kI, e_kS, e_var, e_glb, e_fnv, e_typ, e_neg, e_bin, e_cmp, e_chn, e_and, e_or, e_not, e_ife, e_tup, e_lst, e_ix, e_slc, e_call, e_bi, e_mt, e_lc, e_dc, t_and, t_or, t_not, t_var, t_cmp, t_chn, t_call, t_bi, t_ix, i_var, i_call, i_bi, i_rng, i_zip, ss_nil, ss_cons, so_none, so_some, ea_nil, ea_cons, an_1, an_2, or_1, or_2, tan_1, tan_2, tor_1, tor_2, tal_0, tal_1, ep_0, ep_1, st_, st2_, tu_nil, tu_c, w_0, w_s, ca_ok, at1, at2_0, at2_1, at4_0, at4_1, at4_2, at4_3, bo_nil, bo_c, io_nil, io_c, is_int, is_intb, is_tup, g_0, g_s, p_d, p_own, p_ref, d_d, d_own, a_d, a_own, a_ref, c_lst, c_dct, pk_nil, pk_cons, sa_nil, sa_cons, ao_nil, ao_cons, b_add, b_sub, b_mul, b_div, b_mod, b_pow, b_cat, n_int, n_bl, cv, c_eq, c_ne, c_lt, c_le, c_gt, c_ge, c_in, c_notIn, eq_int, x_lst, x_tup, x_dct, tr_bl, tr_int, bi_len, bi_lent, bi_abs, bi_int, bi_all, bi_list, bi_listk, bi_listt, bi_tuple, bi_tuplet, io_lst, io_klst, io_tup, k_nil, k_cons, k_asg, k_asgS, k_asgN, k_setix, k_ex, k_ret, k_retN, k_iff, k_whl, k_for, k_brk, k_cont, lo_nil, lo_cons, li_some, as_nm, as_tup, as_0, as_s, f_rt, f_own, f_nx, R.bind_ok, R.of_some, Option.bind_some, Option.map_some, List.length_cons, List.length_nil, List.set_cons_zero, List.set_cons_succ, List.map_cons, List.map_nil, List.replicate, List.cons_append, List.nil_append, if_true, if_false, Bool.false_eq_true, e1, y2]
theorem m_filter (Fs : Fns) (E : Env) (S : Store) (k : Int) (v0 v1 v2 v3 v4 v5 v7 v8 : Option Val) (hk : -2 ≤ k) (hk2 : k ≤ 2) : ∃ xs : List Int, (sem Fs gs (.lc (.var 8) (.nm 8) (.lst [(.neg (.kI 3)), (.neg (.kI 1)), (.kI 0), (.kI 1), (.kI 2), (.kI 3)]) [(.cmp .NotEq (.var 8) (.var 6))] [8])).ev [v0, v1, v2, v3, v4, v5, some (I k), v7, v8] S = .ok (.own (.lst (xs.map .int))) S ∧ xs ≠ [] ∧ xs.length ≤ 6 ∧ ∀ x ∈ xs, -3 ≤ x ∧ x ≤ 3 ∧ x ≠ k := by
  have y6 : 6 ≤ PySem.sizeLine := by decide
  have it : (sem Fs gs (.lst [(.neg (.kI 3)), (.neg (.kI 1)), (.kI 0), (.kI 1), (.kI 2), (.kI 3)])).it [v0, v1, v2, v3, v4, v5, some (I k), v7, v8] S = .ok [.int (-3), .int (-1), .int 0, .int 1, .int 2, .int 3] S := by
    rw [i_lst]
    simp [e_kN, e_kB, e_kI, e_kS, e_var, e_glb, e_fnv, e_typ, e_neg, e_bin, e_cmp, e_chn, e_and, e_or, e_not, e_ife, e_tup, e_lst, e_ix, e_slc, e_call, e_bi, e_mt, e_lc, e_dc, t_and, t_or, t_not, t_var, t_cmp, t_chn, t_call, t_bi, t_ix, i_var, i_call, i_bi, i_rng, i_zip, ss_nil, ss_cons, so_none, so_some, ea_nil, ea_cons, an_1, an_2, or_1, or_2, tan_1, tan_2, tor_1, tor_2, tal_0, tal_1, ep_0, ep_1, st_, st2_, tu_nil, tu_c, w_0, w_s, ca_ok, at1, at2_0, at2_1, at4_0, at4_1, at4_2, at4_3, bo_nil, bo_c, io_nil, io_c, is_int, is_intb, is_tup, g_0, g_s, p_d, p_own, p_ref, d_d, d_own, a_d, a_own, a_ref, c_lst, c_dct, pk_nil, pk_cons, sa_nil, sa_cons, ao_nil, ao_cons, b_add, b_sub, b_mul, b_div, b_mod, b_pow, b_cat, n_int, n_bl, cv, c_eq, c_ne, c_lt, c_le, c_gt, c_ge, c_in, c_notIn, eq_int, x_lst, x_tup, x_dct, tr_bl, tr_int, bi_len, bi_lent, bi_abs, bi_int, bi_all, bi_list, bi_listk, bi_listt, bi_tuple, bi_tuplet, io_lst, io_klst, io_tup, k_nil, k_cons, k_asg, k_asgS, k_asgN, k_setix, k_ex, k_ret, k_retN, k_iff, k_whl, k_for, k_brk, k_cont, lo_nil, lo_cons, li_some, as_nm, as_tup, as_0, as_s, f_rt, f_own, f_nx, R.bind_ok, R.of_some, Option.bind_some, Option.map_some, List.length_cons, List.length_nil, List.set_cons_zero, List.set_cons_succ, List.map_cons, List.map_nil, List.replicate, List.cons_append, List.nil_append, if_true, if_false, Bool.false_eq_true, y6]
  have cases_ : k = -2 ∨ k = -1 ∨ k = 0 ∨ k = 1 ∨ k = 2 := by omega
  rcases cases_ with e | e | e | e | e <;> subst e
  · exact ⟨[-3, -1, 0, 1, 2, 3], by simp [e_kN, e_kB, e_kI, e_kS, e_var, e_glb, e_fnv, e_typ, e_neg, e_bin, e_cmp, e_chn, e_and, e_or, e_not, e_ife, e_tup, e_lst, e_ix, e_slc, e_call, e_bi, e_mt, e_lc, e_dc, t_and, t_or, t_not, t_var, t_cmp, t_chn, t_call, t_bi, t_ix, i_var, i_call, i_bi, i_rng, i_zip, ss_nil, ss_cons, so_none, so_some, ea_nil, ea_cons, an_1, an_2, or_1, or_2, tan_1, tan_2, tor_1, tor_2, tal_0, tal_1, ep_0, ep_1, st_, st2_, tu_nil, tu_c, w_0, w_s, ca_ok, at1, at2_0, at2_1, at4_0, at4_1, at4_2, at4_3, bo_nil, bo_c, io_nil, io_c, is_int, is_intb, is_tup, g_0, g_s, p_d, p_own, p_ref, d_d, d_own, a_d, a_own, a_ref, c_lst, c_dct, pk_nil, pk_cons, sa_nil, sa_cons, ao_nil, ao_cons, b_add, b_sub, b_mul, b_div, b_mod, b_pow, b_cat, n_int, n_bl, cv, c_eq, c_ne, c_lt, c_le, c_gt, c_ge, c_in, c_notIn, eq_int, x_lst, x_tup, x_dct, tr_bl, tr_int, bi_len, bi_lent, bi_abs, bi_int, bi_all, bi_list, bi_listk, bi_listt, bi_tuple, bi_tuplet, io_lst, io_klst, io_tup, k_nil, k_cons, k_asg, k_asgS, k_asgN, k_setix, k_ex, k_ret, k_retN, k_iff, k_whl, k_for, k_brk, k_cont, lo_nil, lo_cons, li_some, as_nm, as_tup, as_0, as_s, f_rt, f_own, f_nx, R.bind_ok, R.of_some, Option.bind_some, Option.map_some, List.length_cons, List.length_nil, List.set_cons_zero, List.set_cons_succ, List.map_cons, List.map_nil, List.replicate, List.cons_append, List.nil_append, if_true, if_false, Bool.false_eq_true, it, eq_int], by simp, by simp, by decide⟩
  · exact ⟨[-3, 0, 1, 2, 3], by simp [e_kN, e_kB, e_kI, e_kS, e_var, e_glb, e_fnv, e_typ, e_neg, e_bin, e_cmp, e_chn, e_and, e_or, e_not, e_ife, e_tup, e_lst, e_ix, e_slc, e_call, e_bi, e_mt, e_lc, e_dc, t_and, t_or, t_not, t_var, t_cmp, t_chn, t_call, t_bi, t_ix, i_var, i_call, i_bi, i_rng, i_zip, ss_nil, ss_cons, so_none, so_some, ea_nil, ea_cons, an_1, an_2, or_1, or_2, tan_1, tan_2, tor_1, tor_2, tal_0, tal_1, ep_0, ep_1, st_, st2_, tu_nil, tu_c, w_0, w_s, ca_ok, at1, at2_0, at2_1, at4_0, at4_1, at4_2, at4_3, bo_nil, bo_c, io_nil, io_c, is_int, is_intb, is_tup, g_0, g_s, p_d, p_own, p_ref, d_d, d_own, a_d, a_own, a_ref, c_lst, c_dct, pk_nil, pk_cons, sa_nil, sa_cons, ao_nil, ao_cons, b_add, b_sub, b_mul, b_div, b_mod, b_pow, b_cat, n_int, n_bl, cv, c_eq, c_ne, c_lt, c_le, c_gt, c_ge, c_in, c_notIn, eq_int, x_lst, x_tup, x_dct, tr_bl, tr_int, bi_len, bi_lent, bi_abs, bi_int, bi_all, bi_list, bi_listk, bi_listt, bi_tuple, bi_tuplet, io_lst, io_klst, io_tup, k_nil, k_cons, k_asg, k_asgS, k_asgN, k_setix, k_ex, k_ret, k_retN, k_iff, k_whl, k_for, k_brk, k_cont, lo_nil, lo_cons, li_some, as_nm, as_tup, as_0, as_s, f_rt, f_own, f_nx, R.bind_ok, R.of_some, Option.bind_some, Option.map_some, List.length_cons, List.length_nil, List.set_cons_zero, List.set_cons_succ, List.map_cons, List.map_nil, List.replicate, List.cons_append, List.nil_append, if_true, if_false, Bool.false_eq_true, it, eq_int], by simp, by simp, by decide⟩
  · exact ⟨[-3, -1, 1, 2, 3], by simp [e_kN, e_kB, e_kI, e_kS, e_var, e_glb, e_fnv, e_typ, e_neg, e_bin, e_cmp, e_chn, e_and, e_or, e_not, e_ife, e_tup, e_lst, e_ix, e_slc, e_call, e_bi, e_mt, e_lc, e_dc, t_and, t_or, t_not, t_var, t_cmp, t_chn, t_call, t_bi, t_ix, i_var, i_call, i_bi, i_rng, i_zip, ss_nil, ss_cons, so_none, so_some, ea_nil, ea_cons, an_1, an_2, or_1, or_2, tan_1, tan_2, tor_1, tor_2, tal_0, tal_1, ep_0, ep_1, st_, st2_, tu_nil, tu_c, w_0, w_s, ca_ok, at1, at2_0, at2_1, at4_0, at4_1, at4_2, at4_3, bo_nil, bo_c, io_nil, io_c, is_int, is_intb, is_tup, g_0, g_s, p_d, p_own, p_ref, d_d, d_own, a_d, a_own, a_ref, c_lst, c_dct, pk_nil, pk_cons, sa_nil, sa_cons, ao_nil, ao_cons, b_add, b_sub, b_mul, b_div, b_mod, b_pow, b_cat, n_int, n_bl, cv, c_eq, c_ne, c_lt, c_le, c_gt, c_ge, c_in, c_notIn, eq_int, x_lst, x_tup, x_dct, tr_bl, tr_int, bi_len, bi_lent, bi_abs, bi_int, bi_all, bi_list, bi_listk, bi_listt, bi_tuple, bi_tuplet, io_lst, io_klst, io_tup, k_nil, k_cons, k_asg, k_asgS, k_asgN, k_setix, k_ex, k_ret, k_retN, k_iff, k_whl, k_for, k_brk, k_cont, lo_nil, lo_cons, li_some, as_nm, as_tup, as_0, as_s, f_rt, f_own, f_nx, R.bind_ok, R.of_some, Option.bind_some, Option.map_some, List.length_cons, List.length_nil, List.set_cons_zero, List.set_cons_succ, List.map_cons, List.map_nil, List.replicate, List.cons_append, List.nil_append, if_true, if_false, Bool.false_eq_true, it, eq_int], by simp, by simp, by decide⟩
  · exact ⟨[-3, -1, 0, 2, 3], by simp [e_kN, e_kB, e_kI, e_kS, e_var, e_glb, e_fnv, e_typ, e_neg, e_bin, e_cmp, e_chn, e_and, e_or, e_not, e_ife, e_tup, e_lst, e_ix, e_slc, e_call, e_bi, e_mt, e_lc, e_dc, t_and, t_or, t_not, t_var, t_cmp, t_chn, t_call, t_bi, t_ix, i_var, i_call, i_bi, i_rng, i_zip, ss_nil, ss_cons, so_none, so_some, ea_nil, ea_cons, an_1, an_2, or_1, or_2, tan_1, tan_2, tor_1, tor_2, tal_0, tal_1, ep_0, ep_1, st_, st2_, tu_nil, tu_c, w_0, w_s, ca_ok, at1, at2_0, at2_1, at4_0, at4_1, at4_2, at4_3, bo_nil, bo_c, io_nil, io_c, is_int, is_intb, is_tup, g_0, g_s, p_d, p_own, p_ref, d_d, d_own, a_d, a_own, a_ref, c_lst, c_dct, pk_nil, pk_cons, sa_nil, sa_cons, ao_nil, ao_cons, b_add, b_sub, b_mul, b_div, b_mod, b_pow, b_cat, n_int, n_bl, cv, c_eq, c_ne, c_lt, c_le, c_gt, c_ge, c_in, c_notIn, eq_int, x_lst, x_tup, x_dct, tr_bl, tr_int, bi_len, bi_lent, bi_abs, bi_int, bi_all, bi_list, bi_listk, bi_listt, bi_tuple, bi_tuplet, io_lst, io_klst, io_tup, k_nil, k_cons, k_asg, k_asgS, k_asgN, k_setix, k_ex, k_ret, k_retN, k_iff, k_whl, k_for, k_brk, k_cont, lo_nil, lo_cons, li_some, as_nm, as_tup, as_0, as_s, f_rt, f_own, f_nx, R.bind_ok, R.of_some, Option.bind_some, Option.map_some, List.length_cons, List.length_nil, List.set_cons_zero, List.set_cons_succ, List.map_cons, List.map_nil, List.replicate, List.cons_append, List.nil_append, if_true, if_false, Bool.false_eq_true, it, eq_int], by simp, by simp, by decide⟩
  · exact ⟨[-3, -1, 0, 1, 3], by simp [e_kN, e_kB, e_kI, e_kS, e_var, e_glb, e_fnv, e_typ, e_neg, e_bin, e_cmp, e_chn, e_and, e_or, e_not, e_ife, e_tup, e_lst, e_ix, e_slc, e_call, e_bi, e_mt, e_lc, e_dc, t_and, t_or, t_not, t_var, t_cmp, t_chn, t_call, t_bi, t_ix, i_var, i_call, i_bi, i_rng, i_zip, ss_nil, ss_cons, so_none, so_some, ea_nil, ea_cons, an_1, an_2, or_1, or_2, tan_1, tan_2, tor_1, tor_2, tal_0, tal_1, ep_0, ep_1, st_, st2_, tu_nil, tu_c, w_0, w_s, ca_ok, at1, at2_0, at2_1, at4_0, at4_1, at4_2, at4_3, bo_nil, bo_c, io_nil, io_c, is_int, is_intb, is_tup, g_0, g_s, p_d, p_own, p_ref, d_d, d_own, a_d, a_own, a_ref, c_lst, c_dct, pk_nil, pk_cons, sa_nil, sa_cons, ao_nil, ao_cons, b_add, b_sub, b_mul, b_div, b_mod, b_pow, b_cat, n_int, n_bl, cv, c_eq, c_ne, c_lt, c_le, c_gt, c_ge, c_in, c_notIn, eq_int, x_lst, x_tup, x_dct, tr_bl, tr_int, bi_len, bi_lent, bi_abs, bi_int, bi_all, bi_list, bi_listk, bi_listt, bi_tuple, bi_tuplet, io_lst, io_klst, io_tup, k_nil, k_cons, k_asg, k_asgS, k_asgN, k_setix, k_ex, k_ret, k_retN, k_iff, k_whl, k_for, k_brk, k_cont, lo_nil, lo_cons, li_some, as_nm, as_tup, as_0, as_s, f_rt, f_own, f_nx, R.bind_ok, R.of_some, Option.bind_some, Option.map_some, List.length_cons, List.length_nil, List.set_cons_zero, List.set_cons_succ, List.map_cons, List.map_nil, List.replicate, List.cons_append, List.nil_append, if_true, if_false, Bool.false_eq_true, it, eq_int], by simp, by simp, by decide⟩
end K03

set_option maxHeartbeats 4000000
namespace K03
open Mi
open PySem (Str PyData)
theorem k_step {Fs : Fns} {s : Sx} {r : List Sx} {E E' : Env} {S S' : Store} (h : semS Fs gs 100000 s E S = .ok (.nx, E') S') : semB Fs gs 100000 (s :: r) E S = semB Fs gs 100000 r E' S' := by
  rw [k_cons, h, R.bind_ok]
abbrev g1 : Sx := .asg 3 (.call 26 [(.var 0), (.kI 4)])
abbrev g2 : Sx := .asg 4 (.ife (.cmp .Eq (.var 3) (.kI 0)) (.call 36 [(.var 0)]) (.call 27 [(.var 0), (.lst [(.var 1), (.var 2)])]))
abbrev g3 : Sx := .asg 5 (.tup [(.bin .Sub (.ix (.var 2) (.kI 0)) (.ix (.var 1) (.kI 0))), (.bin .Sub (.ix (.var 2) (.kI 1)) (.ix (.var 1) (.kI 1)))])
abbrev g4 : Sx := .iff (.cmp .Eq (.var 3) (.kI 2)) [.asg 4 (.tup [(.bin .Add (.ix (.var 1) (.kI 0)) (.bin .Mult (.ix (.var 5) (.kI 0)) (.bin .Sub (.call 26 [(.var 0), (.kI 4)]) (.kI 1)))), (.bin .Add (.ix (.var 1) (.kI 1)) (.bin .Mult (.ix (.var 5) (.kI 1)) (.bin .Sub (.call 26 [(.var 0), (.kI 4)]) (.kI 1))))])] []
abbrev g5b : List Sx := [.asg 6 (.bin .Sub (.call 26 [(.var 0), (.kI 5)]) (.kI 2)), .asg 4 (.tup [(.bin .Add (.ix (.var 1) (.kI 0)) (.bin .Mult (.var 6) (.ix (.var 5) (.kI 0)))), (.bin .Add (.ix (.var 1) (.kI 1)) (.bin .Mult (.var 6) (.ix (.var 5) (.kI 1))))]), .asg 7 (.call 27 [(.var 0), (.lc (.var 8) (.nm 8) (.lst [(.neg (.kI 3)), (.neg (.kI 1)), (.kI 0), (.kI 1), (.kI 2), (.kI 3)]) [(.cmp .NotEq (.var 8) (.var 6))] [8])]), .ret (.tup [(.var 4), (.tup [(.bin .Add (.ix (.var 1) (.kI 0)) (.bin .Mult (.var 7) (.ix (.var 5) (.kI 0)))), (.bin .Add (.ix (.var 1) (.kI 1)) (.bin .Mult (.var 7) (.ix (.var 5) (.kI 1))))])])]
abbrev g5 : Sx := .iff (.cmp .Eq (.var 3) (.kI 3)) g5b []
abbrev g6 : Sx := .ret (.tup [(.var 4), (.call 37 [(.var 0), (.var 4)])])
theorem mul_small {x y : Int} {N M : Nat} (h1 : -(N : Int) ≤ x) (h2 : x ≤ N) (h3 : -(M : Int) ≤ y) (h4 : y ≤ M) : -((N * M : Nat) : Int) ≤ x * y ∧ x * y ≤ ((N * M : Nat) : Int) := by
  have a : x.natAbs ≤ N := by omega
  have b : y.natAbs ≤ M := by omega
  have c : (x * y).natAbs ≤ N * M := by rw [Int.natAbs_mul]; exact Nat.mul_le_mul a b
  omega
theorem ends_run (n : Nat) (ns : List Int) (S : Store) (c : Cur ns S) (a b : Int × Int) (ha : In 3 a) (hb : In 5 b) (ne : a ≠ b) : ∃ p q S', C (n + 4) 38 [.ref 0, .d (fr a), .d (fr b)] S = .ok (.d (.tup [fr p, fr q])) S' ∧ In 32 p ∧ In 32 q ∧ p ≠ q ∧ Cur ns S' := by
  obtain ⟨w, S1, e1, w0, w1, c1⟩ := draw_run (n + 2) ns S 4 c (by omega) (by decide)
  have y2 : 2 ≤ PySem.sizeLine := by decide
  -- the first choice
  obtain ⟨x, S2, e2, hx, c2⟩ : ∃ x S2, semS (C (n + 3)) gs 100000 g2 [some (.ref 0), some (.d (fr a)), some (.d (fr b)), some (I w), none, none, none, none, none] S1 = .ok (.nx, [some (.ref 0), some (.d (fr a)), some (.d (fr b)), some (I w), some (.d (fr x)), none, none, none, none]) S2 ∧ In 5 x ∧ Cur ns S2 := by
    by_cases z : w = 0
    · obtain ⟨P, S2, e2, hP, c2⟩ := place_run (n + 1) ns S1 c1
      have z' : (w == 0) = true := by simpa using z
      exact ⟨P, S2, by simp [e_kN, e_kB, e_kI, e_kS, e_var, e_glb, e_fnv, e_typ, e_neg, e_bin, e_cmp, e_chn, e_and, e_or, e_not, e_ife, e_tup, e_lst, e_ix, e_slc, e_call, e_bi, e_mt, e_lc, e_dc, t_and, t_or, t_not, t_var, t_cmp, t_chn, t_call, t_bi, t_ix, i_var, i_call, i_bi, i_rng, i_zip, ss_nil, ss_cons, so_none, so_some, ea_nil, ea_cons, an_1, an_2, or_1, or_2, tan_1, tan_2, tor_1, tor_2, tal_0, tal_1, ep_0, ep_1, st_, st2_, tu_nil, tu_c, w_0, w_s, ca_ok, at1, at2_0, at2_1, at4_0, at4_1, at4_2, at4_3, bo_nil, bo_c, io_nil, io_c, is_int, is_intb, is_tup, g_0, g_s, p_d, p_own, p_ref, d_d, d_own, a_d, a_own, a_ref, c_lst, c_dct, pk_nil, pk_cons, sa_nil, sa_cons, ao_nil, ao_cons, b_add, b_sub, b_mul, b_div, b_mod, b_pow, b_cat, n_int, n_bl, cv, c_eq, c_ne, c_lt, c_le, c_gt, c_ge, c_in, c_notIn, eq_int, x_lst, x_tup, x_dct, tr_bl, tr_int, bi_len, bi_lent, bi_abs, bi_int, bi_all, bi_list, bi_listk, bi_listt, bi_tuple, bi_tuplet, io_lst, io_klst, io_tup, k_nil, k_cons, k_asg, k_asgS, k_asgN, k_setix, k_ex, k_ret, k_retN, k_iff, k_whl, k_for, k_brk, k_cont, lo_nil, lo_cons, li_some, as_nm, as_tup, as_0, as_s, f_rt, f_own, f_nx, R.bind_ok, R.of_some, Option.bind_some, Option.map_some, List.length_cons, List.length_nil, List.set_cons_zero, List.set_cons_succ, List.map_cons, List.map_nil, List.replicate, List.cons_append, List.nil_append, if_true, if_false, Bool.false_eq_true, eq_int, z', e2], hP.mono (by omega), c2⟩
    · obtain ⟨v, S2, e2, hv, c2⟩ := pick_run (n + 1) ns S1 [fr a, fr b] c1 (by simp) (by simp)
      have z' : (w == 0) = false := by simpa using z
      obtain ⟨P, rfl, hP⟩ : ∃ P, v = fr P ∧ In 5 P := by
        simp only [List.mem_cons, List.not_mem_nil, or_false] at hv
        rcases hv with e | e
        · exact ⟨a, e, ha.mono (by omega)⟩
        · exact ⟨b, e, hb⟩
      exact ⟨P, S2, by simp [e_kN, e_kB, e_kI, e_kS, e_var, e_glb, e_fnv, e_typ, e_neg, e_bin, e_cmp, e_chn, e_and, e_or, e_not, e_ife, e_tup, e_lst, e_ix, e_slc, e_call, e_bi, e_mt, e_lc, e_dc, t_and, t_or, t_not, t_var, t_cmp, t_chn, t_call, t_bi, t_ix, i_var, i_call, i_bi, i_rng, i_zip, ss_nil, ss_cons, so_none, so_some, ea_nil, ea_cons, an_1, an_2, or_1, or_2, tan_1, tan_2, tor_1, tor_2, tal_0, tal_1, ep_0, ep_1, st_, st2_, tu_nil, tu_c, w_0, w_s, ca_ok, at1, at2_0, at2_1, at4_0, at4_1, at4_2, at4_3, bo_nil, bo_c, io_nil, io_c, is_int, is_intb, is_tup, g_0, g_s, p_d, p_own, p_ref, d_d, d_own, a_d, a_own, a_ref, c_lst, c_dct, pk_nil, pk_cons, sa_nil, sa_cons, ao_nil, ao_cons, b_add, b_sub, b_mul, b_div, b_mod, b_pow, b_cat, n_int, n_bl, cv, c_eq, c_ne, c_lt, c_le, c_gt, c_ge, c_in, c_notIn, eq_int, x_lst, x_tup, x_dct, tr_bl, tr_int, bi_len, bi_lent, bi_abs, bi_int, bi_all, bi_list, bi_listk, bi_listt, bi_tuple, bi_tuplet, io_lst, io_klst, io_tup, k_nil, k_cons, k_asg, k_asgS, k_asgN, k_setix, k_ex, k_ret, k_retN, k_iff, k_whl, k_for, k_brk, k_cont, lo_nil, lo_cons, li_some, as_nm, as_tup, as_0, as_s, f_rt, f_own, f_nx, R.bind_ok, R.of_some, Option.bind_some, Option.map_some, List.length_cons, List.length_nil, List.set_cons_zero, List.set_cons_succ, List.map_cons, List.map_nil, List.replicate, List.cons_append, List.nil_append, if_true, if_false, Bool.false_eq_true, eq_int, z', e2, y2], hP, c2⟩
  have e3 : semS (C (n + 3)) gs 100000 g3 [some (.ref 0), some (.d (fr a)), some (.d (fr b)), some (I w), some (.d (fr x)), none, none, none, none] S2 = .ok (.nx, [some (.ref 0), some (.d (fr a)), some (.d (fr b)), some (I w), some (.d (fr x)), some (.d (fr (b.1 - a.1, b.2 - a.2))), none, none, none]) S2 := by
    simp [e_kN, e_kB, e_kI, e_kS, e_var, e_glb, e_fnv, e_typ, e_neg, e_bin, e_cmp, e_chn, e_and, e_or, e_not, e_ife, e_tup, e_lst, e_ix, e_slc, e_call, e_bi, e_mt, e_lc, e_dc, t_and, t_or, t_not, t_var, t_cmp, t_chn, t_call, t_bi, t_ix, i_var, i_call, i_bi, i_rng, i_zip, ss_nil, ss_cons, so_none, so_some, ea_nil, ea_cons, an_1, an_2, or_1, or_2, tan_1, tan_2, tor_1, tor_2, tal_0, tal_1, ep_0, ep_1, st_, st2_, tu_nil, tu_c, w_0, w_s, ca_ok, at1, at2_0, at2_1, at4_0, at4_1, at4_2, at4_3, bo_nil, bo_c, io_nil, io_c, is_int, is_intb, is_tup, g_0, g_s, p_d, p_own, p_ref, d_d, d_own, a_d, a_own, a_ref, c_lst, c_dct, pk_nil, pk_cons, sa_nil, sa_cons, ao_nil, ao_cons, b_add, b_sub, b_mul, b_div, b_mod, b_pow, b_cat, n_int, n_bl, cv, c_eq, c_ne, c_lt, c_le, c_gt, c_ge, c_in, c_notIn, eq_int, x_lst, x_tup, x_dct, tr_bl, tr_int, bi_len, bi_lent, bi_abs, bi_int, bi_all, bi_list, bi_listk, bi_listt, bi_tuple, bi_tuplet, io_lst, io_klst, io_tup, k_nil, k_cons, k_asg, k_asgS, k_asgN, k_setix, k_ex, k_ret, k_retN, k_iff, k_whl, k_for, k_brk, k_cont, lo_nil, lo_cons, li_some, as_nm, as_tup, as_0, as_s, f_rt, f_own, f_nx, R.bind_ok, R.of_some, Option.bind_some, Option.map_some, List.length_cons, List.length_nil, List.set_cons_zero, List.set_cons_succ, List.map_cons, List.map_nil, List.replicate, List.cons_append, List.nil_append, if_true, if_false, Bool.false_eq_true, y2]
  have eg1 : semS (C (n + 3)) gs 100000 g1 [some (.ref 0), some (.d (fr a)), some (.d (fr b)), none, none, none, none, none, none] S = .ok (.nx, [some (.ref 0), some (.d (fr a)), some (.d (fr b)), some (I w), none, none, none, none, none]) S1 := by
    simp [e_kN, e_kB, e_kI, e_kS, e_var, e_glb, e_fnv, e_typ, e_neg, e_bin, e_cmp, e_chn, e_and, e_or, e_not, e_ife, e_tup, e_lst, e_ix, e_slc, e_call, e_bi, e_mt, e_lc, e_dc, t_and, t_or, t_not, t_var, t_cmp, t_chn, t_call, t_bi, t_ix, i_var, i_call, i_bi, i_rng, i_zip, ss_nil, ss_cons, so_none, so_some, ea_nil, ea_cons, an_1, an_2, or_1, or_2, tan_1, tan_2, tor_1, tor_2, tal_0, tal_1, ep_0, ep_1, st_, st2_, tu_nil, tu_c, w_0, w_s, ca_ok, at1, at2_0, at2_1, at4_0, at4_1, at4_2, at4_3, bo_nil, bo_c, io_nil, io_c, is_int, is_intb, is_tup, g_0, g_s, p_d, p_own, p_ref, d_d, d_own, a_d, a_own, a_ref, c_lst, c_dct, pk_nil, pk_cons, sa_nil, sa_cons, ao_nil, ao_cons, b_add, b_sub, b_mul, b_div, b_mod, b_pow, b_cat, n_int, n_bl, cv, c_eq, c_ne, c_lt, c_le, c_gt, c_ge, c_in, c_notIn, eq_int, x_lst, x_tup, x_dct, tr_bl, tr_int, bi_len, bi_lent, bi_abs, bi_int, bi_all, bi_list, bi_listk, bi_listt, bi_tuple, bi_tuplet, io_lst, io_klst, io_tup, k_nil, k_cons, k_asg, k_asgS, k_asgN, k_setix, k_ex, k_ret, k_retN, k_iff, k_whl, k_for, k_brk, k_cont, lo_nil, lo_cons, li_some, as_nm, as_tup, as_0, as_s, f_rt, f_own, f_nx, R.bind_ok, R.of_some, Option.bind_some, Option.map_some, List.length_cons, List.length_nil, List.set_cons_zero, List.set_cons_succ, List.map_cons, List.map_nil, List.replicate, List.cons_append, List.nil_append, if_true, if_false, Bool.false_eq_true, e1]
  obtain ⟨s, hs⟩ : ∃ s : Int × Int, s = (b.1 - a.1, b.2 - a.2) := ⟨_, rfl⟩
  have s0 : s.1 ≠ 0 ∨ s.2 ≠ 0 := by
    apply Classical.byContradiction
    intro z
    rw [hs] at z
    simp only [not_or, Decidable.not_not] at z
    exact ne (Prod.ext (by omega) (by omega))
  obtain ⟨a1, a2, a3, a4⟩ := ha
  obtain ⟨b1, b2, b3, b4⟩ := hb
  have t1 : -(8 : Int) ≤ s.1 := by rw [hs]; show -8 ≤ b.1 - a.1; omega
  have t2 : s.1 ≤ 8 := by rw [hs]; show b.1 - a.1 ≤ 8; omega
  have t3 : -(8 : Int) ≤ s.2 := by rw [hs]; show -8 ≤ b.2 - a.2; omega
  have t4 : s.2 ≤ 8 := by rw [hs]; show b.2 - a.2 ≤ 8; omega
  rw [← hs] at e3
  have cm : ∀ i j : Int, -8 ≤ i → i ≤ 8 → -8 ≤ j → j ≤ 8 → cmulB i j = true := fun i j h1 h2 h3 h4 => cmul_ok (k := 4) (l := 4) (by unfold B; omega) (by unfold B; omega) (by omega)
  have start : ∀ (p q : Int × Int) (S' : Store), fin 1 (semB (C (n + 3)) gs 100000 [g4, g5, g6] [some (.ref 0), some (.d (fr a)), some (.d (fr b)), some (I w), some (.d (fr x)), some (.d (fr s)), none, none, none] S2) = .ok (.d (.tup [fr p, fr q])) S' → C (n + 4) 38 [.ref 0, .d (fr a), .d (fr b)] S = .ok (.d (.tup [fr p, fr q])) S' := fun p q S' h => by
    rw [call_at (fd := ⟨3, 9, b38⟩) rfl, r_run _ _ _ _ _ _ rfl]
    show fin S.length (semB (C (n + 3)) gs 100000 [g1, g2, g3, g4, g5, g6] [some (.ref 0), some (.d (fr a)), some (.d (fr b)), none, none, none, none, none, none] S) = _
    rw [k_step eg1, k_step e2, k_step e3]
    obtain ⟨p2, q2, s2, e', _⟩ := c.ex
    have el : S.length = 1 := by rw [e']; rfl
    rw [el]
    exact h
  have one : ∀ {p q : Int × Int} {E' : Env} {S' : Store}, Cur ns S' → fin 1 ((R.ok (Fl.rt (.d (.tup [fr p, fr q])), E') S')) = .ok (.d (.tup [fr p, fr q])) S' := fun {p q E' S'} cS => by
    obtain ⟨p', q', s', e, _⟩ := cS.ex
    rw [e]
    rfl
  by_cases z2 : w = 2
  · subst z2
    obtain ⟨i, S3, e4, i0, i1, c3⟩ := draw_run (n + 2) ns S2 4 c2 (by omega) (by decide)
    obtain ⟨j, S4, e5, j0, j1, c4⟩ := draw_run (n + 2) ns S3 4 c3 (by omega) (by decide)
    obtain ⟨m1, m2⟩ := mul_small (x := s.1) (y := i - 1) (N := 8) (M := 2) t1 t2 (by omega) (by omega)
    obtain ⟨m3, m4⟩ := mul_small (x := s.2) (y := j - 1) (N := 8) (M := 2) t3 t4 (by omega) (by omega)
    have k1 := cm s.1 (i - 1) t1 t2 (by omega) (by omega)
    have k2 := cm s.2 (j - 1) t3 t4 (by omega) (by omega)
    have eg4 : semS (C (n + 3)) gs 100000 g4 [some (.ref 0), some (.d (fr a)), some (.d (fr b)), some (I 2), some (.d (fr x)), some (.d (fr s)), none, none, none] S2 = .ok (.nx, [some (.ref 0), some (.d (fr a)), some (.d (fr b)), some (I 2), some (.d (fr (a.1 + s.1 * (i - 1), a.2 + s.2 * (j - 1)))), some (.d (fr s)), none, none, none]) S4 := by
      simp [e_kN, e_kB, e_kI, e_kS, e_var, e_glb, e_fnv, e_typ, e_neg, e_bin, e_cmp, e_chn, e_and, e_or, e_not, e_ife, e_tup, e_lst, e_ix, e_slc, e_call, e_bi, e_mt, e_lc, e_dc, t_and, t_or, t_not, t_var, t_cmp, t_chn, t_call, t_bi, t_ix, i_var, i_call, i_bi, i_rng, i_zip, ss_nil, ss_cons, so_none, so_some, ea_nil, ea_cons, an_1, an_2, or_1, or_2, tan_1, tan_2, tor_1, tor_2, tal_0, tal_1, ep_0, ep_1, st_, st2_, tu_nil, tu_c, w_0, w_s, ca_ok, at1, at2_0, at2_1, at4_0, at4_1, at4_2, at4_3, bo_nil, bo_c, io_nil, io_c, is_int, is_intb, is_tup, g_0, g_s, p_d, p_own, p_ref, d_d, d_own, a_d, a_own, a_ref, c_lst, c_dct, pk_nil, pk_cons, sa_nil, sa_cons, ao_nil, ao_cons, b_add, b_sub, b_mul, b_div, b_mod, b_pow, b_cat, n_int, n_bl, cv, c_eq, c_ne, c_lt, c_le, c_gt, c_ge, c_in, c_notIn, eq_int, x_lst, x_tup, x_dct, tr_bl, tr_int, bi_len, bi_lent, bi_abs, bi_int, bi_all, bi_list, bi_listk, bi_listt, bi_tuple, bi_tuplet, io_lst, io_klst, io_tup, k_nil, k_cons, k_asg, k_asgS, k_asgN, k_setix, k_ex, k_ret, k_retN, k_iff, k_whl, k_for, k_brk, k_cont, lo_nil, lo_cons, li_some, as_nm, as_tup, as_0, as_s, f_rt, f_own, f_nx, R.bind_ok, R.of_some, Option.bind_some, Option.map_some, List.length_cons, List.length_nil, List.set_cons_zero, List.set_cons_succ, List.map_cons, List.map_nil, List.replicate, List.cons_append, List.nil_append, if_true, if_false, Bool.false_eq_true, eq_int, e4, e5, k1, k2, y2]
    have hP : In 19 (a.1 + s.1 * (i - 1), a.2 + s.2 * (j - 1)) := ⟨by show -19 ≤ a.1 + s.1 * (i - 1); omega, by show a.1 + s.1 * (i - 1) ≤ 19; omega, by show -19 ≤ a.2 + s.2 * (j - 1); omega, by show a.2 + s.2 * (j - 1) ≤ 19; omega⟩
    obtain ⟨Q, S5, e6, hQ, nq, c5⟩ := ends_tail n ns S4 c4 _ hP (by omega) (some (.d (fr a))) (some (.d (fr b))) (some (I 2)) (some (.d (fr s))) none none none
    refine ⟨_, Q, S5, start _ Q S5 ?_, hP.mono (by omega), hQ.mono (by omega), nq, c5⟩
    rw [k_step eg4]
    have eg5 : semS (C (n + 3)) gs 100000 g5 [some (.ref 0), some (.d (fr a)), some (.d (fr b)), some (I 2), some (.d (fr (a.1 + s.1 * (i - 1), a.2 + s.2 * (j - 1)))), some (.d (fr s)), none, none, none] S4 = .ok (.nx, [some (.ref 0), some (.d (fr a)), some (.d (fr b)), some (I 2), some (.d (fr (a.1 + s.1 * (i - 1), a.2 + s.2 * (j - 1)))), some (.d (fr s)), none, none, none]) S4 := by
      simp [e_kN, e_kB, e_kI, e_kS, e_var, e_glb, e_fnv, e_typ, e_neg, e_bin, e_cmp, e_chn, e_and, e_or, e_not, e_ife, e_tup, e_lst, e_ix, e_slc, e_call, e_bi, e_mt, e_lc, e_dc, t_and, t_or, t_not, t_var, t_cmp, t_chn, t_call, t_bi, t_ix, i_var, i_call, i_bi, i_rng, i_zip, ss_nil, ss_cons, so_none, so_some, ea_nil, ea_cons, an_1, an_2, or_1, or_2, tan_1, tan_2, tor_1, tor_2, tal_0, tal_1, ep_0, ep_1, st_, st2_, tu_nil, tu_c, w_0, w_s, ca_ok, at1, at2_0, at2_1, at4_0, at4_1, at4_2, at4_3, bo_nil, bo_c, io_nil, io_c, is_int, is_intb, is_tup, g_0, g_s, p_d, p_own, p_ref, d_d, d_own, a_d, a_own, a_ref, c_lst, c_dct, pk_nil, pk_cons, sa_nil, sa_cons, ao_nil, ao_cons, b_add, b_sub, b_mul, b_div, b_mod, b_pow, b_cat, n_int, n_bl, cv, c_eq, c_ne, c_lt, c_le, c_gt, c_ge, c_in, c_notIn, eq_int, x_lst, x_tup, x_dct, tr_bl, tr_int, bi_len, bi_lent, bi_abs, bi_int, bi_all, bi_list, bi_listk, bi_listt, bi_tuple, bi_tuplet, io_lst, io_klst, io_tup, k_nil, k_cons, k_asg, k_asgS, k_asgN, k_setix, k_ex, k_ret, k_retN, k_iff, k_whl, k_for, k_brk, k_cont, lo_nil, lo_cons, li_some, as_nm, as_tup, as_0, as_s, f_rt, f_own, f_nx, R.bind_ok, R.of_some, Option.bind_some, Option.map_some, List.length_cons, List.length_nil, List.set_cons_zero, List.set_cons_succ, List.map_cons, List.map_nil, List.replicate, List.cons_append, List.nil_append, if_true, if_false, Bool.false_eq_true, eq_int]
    rw [k_step eg5, k_cons, e6]
    exact one c5
  have z2' : (w == 2) = false := by simpa using z2
  have eg4 : semS (C (n + 3)) gs 100000 g4 [some (.ref 0), some (.d (fr a)), some (.d (fr b)), some (I w), some (.d (fr x)), some (.d (fr s)), none, none, none] S2 = .ok (.nx, [some (.ref 0), some (.d (fr a)), some (.d (fr b)), some (I w), some (.d (fr x)), some (.d (fr s)), none, none, none]) S2 := by
    simp [e_kN, e_kB, e_kI, e_kS, e_var, e_glb, e_fnv, e_typ, e_neg, e_bin, e_cmp, e_chn, e_and, e_or, e_not, e_ife, e_tup, e_lst, e_ix, e_slc, e_call, e_bi, e_mt, e_lc, e_dc, t_and, t_or, t_not, t_var, t_cmp, t_chn, t_call, t_bi, t_ix, i_var, i_call, i_bi, i_rng, i_zip, ss_nil, ss_cons, so_none, so_some, ea_nil, ea_cons, an_1, an_2, or_1, or_2, tan_1, tan_2, tor_1, tor_2, tal_0, tal_1, ep_0, ep_1, st_, st2_, tu_nil, tu_c, w_0, w_s, ca_ok, at1, at2_0, at2_1, at4_0, at4_1, at4_2, at4_3, bo_nil, bo_c, io_nil, io_c, is_int, is_intb, is_tup, g_0, g_s, p_d, p_own, p_ref, d_d, d_own, a_d, a_own, a_ref, c_lst, c_dct, pk_nil, pk_cons, sa_nil, sa_cons, ao_nil, ao_cons, b_add, b_sub, b_mul, b_div, b_mod, b_pow, b_cat, n_int, n_bl, cv, c_eq, c_ne, c_lt, c_le, c_gt, c_ge, c_in, c_notIn, eq_int, x_lst, x_tup, x_dct, tr_bl, tr_int, bi_len, bi_lent, bi_abs, bi_int, bi_all, bi_list, bi_listk, bi_listt, bi_tuple, bi_tuplet, io_lst, io_klst, io_tup, k_nil, k_cons, k_asg, k_asgS, k_asgN, k_setix, k_ex, k_ret, k_retN, k_iff, k_whl, k_for, k_brk, k_cont, lo_nil, lo_cons, li_some, as_nm, as_tup, as_0, as_s, f_rt, f_own, f_nx, R.bind_ok, R.of_some, Option.bind_some, Option.map_some, List.length_cons, List.length_nil, List.set_cons_zero, List.set_cons_succ, List.map_cons, List.map_nil, List.replicate, List.cons_append, List.nil_append, if_true, if_false, Bool.false_eq_true, eq_int, z2']
  by_cases z3 : w = 3
  · subst z3
    obtain ⟨i, S3, e4, i0, i1, c3⟩ := draw_run (n + 2) ns S2 5 c2 (by omega) (by decide)
    obtain ⟨xs, ef, hne, hl, hm⟩ := m_filter (C (n + 3)) [] S3 (i - 2) (some (.ref 0)) (some (.d (fr a))) (some (.d (fr b))) (some (I 3)) (some (.d (fr (a.1 + (i - 2) * s.1, a.2 + (i - 2) * s.2)))) (some (.d (fr s))) none none (by omega) (by omega)
    obtain ⟨v, S4, e5, hv, c4⟩ := pick_run (n + 1) ns S3 (xs.map .int) c3 (by simpa using hne) (by simp; omega)
    obtain ⟨m, hm2, rfl⟩ := List.mem_map.mp hv
    obtain ⟨r1, r2, r3⟩ := hm m hm2
    obtain ⟨m1, m2⟩ := mul_small (x := i - 2) (y := s.1) (N := 2) (M := 8) (by omega) (by omega) t1 t2
    obtain ⟨m3, m4⟩ := mul_small (x := i - 2) (y := s.2) (N := 2) (M := 8) (by omega) (by omega) t3 t4
    obtain ⟨m5, m6⟩ := mul_small (x := m) (y := s.1) (N := 3) (M := 8) (by omega) (by omega) t1 t2
    obtain ⟨m7, m8⟩ := mul_small (x := m) (y := s.2) (N := 3) (M := 8) (by omega) (by omega) t3 t4
    have k1 := cm (i - 2) s.1 (by omega) (by omega) t1 t2
    have k2 := cm (i - 2) s.2 (by omega) (by omega) t3 t4
    have k3 := cm m s.1 (by omega) (by omega) t1 t2
    have k4 := cm m s.2 (by omega) (by omega) t3 t4
    have f1 : semS (C (n + 3)) gs 100000 (.asg 6 (.bin .Sub (.call 26 [(.var 0), (.kI 5)]) (.kI 2))) [some (.ref 0), some (.d (fr a)), some (.d (fr b)), some (I 3), some (.d (fr x)), some (.d (fr s)), none, none, none] S2 = .ok (.nx, [some (.ref 0), some (.d (fr a)), some (.d (fr b)), some (I 3), some (.d (fr x)), some (.d (fr s)), some (I (i - 2)), none, none]) S3 := by
      simp [e_kN, e_kB, e_kI, e_kS, e_var, e_glb, e_fnv, e_typ, e_neg, e_bin, e_cmp, e_chn, e_and, e_or, e_not, e_ife, e_tup, e_lst, e_ix, e_slc, e_call, e_bi, e_mt, e_lc, e_dc, t_and, t_or, t_not, t_var, t_cmp, t_chn, t_call, t_bi, t_ix, i_var, i_call, i_bi, i_rng, i_zip, ss_nil, ss_cons, so_none, so_some, ea_nil, ea_cons, an_1, an_2, or_1, or_2, tan_1, tan_2, tor_1, tor_2, tal_0, tal_1, ep_0, ep_1, st_, st2_, tu_nil, tu_c, w_0, w_s, ca_ok, at1, at2_0, at2_1, at4_0, at4_1, at4_2, at4_3, bo_nil, bo_c, io_nil, io_c, is_int, is_intb, is_tup, g_0, g_s, p_d, p_own, p_ref, d_d, d_own, a_d, a_own, a_ref, c_lst, c_dct, pk_nil, pk_cons, sa_nil, sa_cons, ao_nil, ao_cons, b_add, b_sub, b_mul, b_div, b_mod, b_pow, b_cat, n_int, n_bl, cv, c_eq, c_ne, c_lt, c_le, c_gt, c_ge, c_in, c_notIn, eq_int, x_lst, x_tup, x_dct, tr_bl, tr_int, bi_len, bi_lent, bi_abs, bi_int, bi_all, bi_list, bi_listk, bi_listt, bi_tuple, bi_tuplet, io_lst, io_klst, io_tup, k_nil, k_cons, k_asg, k_asgS, k_asgN, k_setix, k_ex, k_ret, k_retN, k_iff, k_whl, k_for, k_brk, k_cont, lo_nil, lo_cons, li_some, as_nm, as_tup, as_0, as_s, f_rt, f_own, f_nx, R.bind_ok, R.of_some, Option.bind_some, Option.map_some, List.length_cons, List.length_nil, List.set_cons_zero, List.set_cons_succ, List.map_cons, List.map_nil, List.replicate, List.cons_append, List.nil_append, if_true, if_false, Bool.false_eq_true, e4]
    have f2 : semS (C (n + 3)) gs 100000 (.asg 4 (.tup [(.bin .Add (.ix (.var 1) (.kI 0)) (.bin .Mult (.var 6) (.ix (.var 5) (.kI 0)))), (.bin .Add (.ix (.var 1) (.kI 1)) (.bin .Mult (.var 6) (.ix (.var 5) (.kI 1))))])) [some (.ref 0), some (.d (fr a)), some (.d (fr b)), some (I 3), some (.d (fr x)), some (.d (fr s)), some (I (i - 2)), none, none] S3 = .ok (.nx, [some (.ref 0), some (.d (fr a)), some (.d (fr b)), some (I 3), some (.d (fr (a.1 + (i - 2) * s.1, a.2 + (i - 2) * s.2))), some (.d (fr s)), some (I (i - 2)), none, none]) S3 := by
      simp [e_kN, e_kB, e_kI, e_kS, e_var, e_glb, e_fnv, e_typ, e_neg, e_bin, e_cmp, e_chn, e_and, e_or, e_not, e_ife, e_tup, e_lst, e_ix, e_slc, e_call, e_bi, e_mt, e_lc, e_dc, t_and, t_or, t_not, t_var, t_cmp, t_chn, t_call, t_bi, t_ix, i_var, i_call, i_bi, i_rng, i_zip, ss_nil, ss_cons, so_none, so_some, ea_nil, ea_cons, an_1, an_2, or_1, or_2, tan_1, tan_2, tor_1, tor_2, tal_0, tal_1, ep_0, ep_1, st_, st2_, tu_nil, tu_c, w_0, w_s, ca_ok, at1, at2_0, at2_1, at4_0, at4_1, at4_2, at4_3, bo_nil, bo_c, io_nil, io_c, is_int, is_intb, is_tup, g_0, g_s, p_d, p_own, p_ref, d_d, d_own, a_d, a_own, a_ref, c_lst, c_dct, pk_nil, pk_cons, sa_nil, sa_cons, ao_nil, ao_cons, b_add, b_sub, b_mul, b_div, b_mod, b_pow, b_cat, n_int, n_bl, cv, c_eq, c_ne, c_lt, c_le, c_gt, c_ge, c_in, c_notIn, eq_int, x_lst, x_tup, x_dct, tr_bl, tr_int, bi_len, bi_lent, bi_abs, bi_int, bi_all, bi_list, bi_listk, bi_listt, bi_tuple, bi_tuplet, io_lst, io_klst, io_tup, k_nil, k_cons, k_asg, k_asgS, k_asgN, k_setix, k_ex, k_ret, k_retN, k_iff, k_whl, k_for, k_brk, k_cont, lo_nil, lo_cons, li_some, as_nm, as_tup, as_0, as_s, f_rt, f_own, f_nx, R.bind_ok, R.of_some, Option.bind_some, Option.map_some, List.length_cons, List.length_nil, List.set_cons_zero, List.set_cons_succ, List.map_cons, List.map_nil, List.replicate, List.cons_append, List.nil_append, if_true, if_false, Bool.false_eq_true, k1, k2, y2]
    have f3 : semS (C (n + 3)) gs 100000 (.asg 7 (.call 27 [(.var 0), (.lc (.var 8) (.nm 8) (.lst [(.neg (.kI 3)), (.neg (.kI 1)), (.kI 0), (.kI 1), (.kI 2), (.kI 3)]) [(.cmp .NotEq (.var 8) (.var 6))] [8])])) [some (.ref 0), some (.d (fr a)), some (.d (fr b)), some (I 3), some (.d (fr (a.1 + (i - 2) * s.1, a.2 + (i - 2) * s.2))), some (.d (fr s)), some (I (i - 2)), none, none] S3 = .ok (.nx, [some (.ref 0), some (.d (fr a)), some (.d (fr b)), some (I 3), some (.d (fr (a.1 + (i - 2) * s.1, a.2 + (i - 2) * s.2))), some (.d (fr s)), some (I (i - 2)), some (I m), none]) S4 := by
      rw [k_asg, e_call, ss_cons, ss_cons, ss_nil]
      simp only [ea_cons, ea_nil, e_var, g_0, R.of_some, R.bind_ok, ef]
      simp [e_kN, e_kB, e_kI, e_kS, e_var, e_glb, e_fnv, e_typ, e_neg, e_bin, e_cmp, e_chn, e_and, e_or, e_not, e_ife, e_tup, e_lst, e_ix, e_slc, e_call, e_bi, e_mt, e_lc, e_dc, t_and, t_or, t_not, t_var, t_cmp, t_chn, t_call, t_bi, t_ix, i_var, i_call, i_bi, i_rng, i_zip, ss_nil, ss_cons, so_none, so_some, ea_nil, ea_cons, an_1, an_2, or_1, or_2, tan_1, tan_2, tor_1, tor_2, tal_0, tal_1, ep_0, ep_1, st_, st2_, tu_nil, tu_c, w_0, w_s, ca_ok, at1, at2_0, at2_1, at4_0, at4_1, at4_2, at4_3, bo_nil, bo_c, io_nil, io_c, is_int, is_intb, is_tup, g_0, g_s, p_d, p_own, p_ref, d_d, d_own, a_d, a_own, a_ref, c_lst, c_dct, pk_nil, pk_cons, sa_nil, sa_cons, ao_nil, ao_cons, b_add, b_sub, b_mul, b_div, b_mod, b_pow, b_cat, n_int, n_bl, cv, c_eq, c_ne, c_lt, c_le, c_gt, c_ge, c_in, c_notIn, eq_int, x_lst, x_tup, x_dct, tr_bl, tr_int, bi_len, bi_lent, bi_abs, bi_int, bi_all, bi_list, bi_listk, bi_listt, bi_tuple, bi_tuplet, io_lst, io_klst, io_tup, k_nil, k_cons, k_asg, k_asgS, k_asgN, k_setix, k_ex, k_ret, k_retN, k_iff, k_whl, k_for, k_brk, k_cont, lo_nil, lo_cons, li_some, as_nm, as_tup, as_0, as_s, f_rt, f_own, f_nx, R.bind_ok, R.of_some, Option.bind_some, Option.map_some, List.length_cons, List.length_nil, List.set_cons_zero, List.set_cons_succ, List.map_cons, List.map_nil, List.replicate, List.cons_append, List.nil_append, if_true, if_false, Bool.false_eq_true, e5]
    have f4 : semS (C (n + 3)) gs 100000 (.ret (.tup [(.var 4), (.tup [(.bin .Add (.ix (.var 1) (.kI 0)) (.bin .Mult (.var 7) (.ix (.var 5) (.kI 0)))), (.bin .Add (.ix (.var 1) (.kI 1)) (.bin .Mult (.var 7) (.ix (.var 5) (.kI 1))))])])) [some (.ref 0), some (.d (fr a)), some (.d (fr b)), some (I 3), some (.d (fr (a.1 + (i - 2) * s.1, a.2 + (i - 2) * s.2))), some (.d (fr s)), some (I (i - 2)), some (I m), none] S4 = .ok (.rt (.d (.tup [fr (a.1 + (i - 2) * s.1, a.2 + (i - 2) * s.2), fr (a.1 + m * s.1, a.2 + m * s.2)])), [some (.ref 0), some (.d (fr a)), some (.d (fr b)), some (I 3), some (.d (fr (a.1 + (i - 2) * s.1, a.2 + (i - 2) * s.2))), some (.d (fr s)), some (I (i - 2)), some (I m), none]) S4 := by
      simp [e_kN, e_kB, e_kI, e_kS, e_var, e_glb, e_fnv, e_typ, e_neg, e_bin, e_cmp, e_chn, e_and, e_or, e_not, e_ife, e_tup, e_lst, e_ix, e_slc, e_call, e_bi, e_mt, e_lc, e_dc, t_and, t_or, t_not, t_var, t_cmp, t_chn, t_call, t_bi, t_ix, i_var, i_call, i_bi, i_rng, i_zip, ss_nil, ss_cons, so_none, so_some, ea_nil, ea_cons, an_1, an_2, or_1, or_2, tan_1, tan_2, tor_1, tor_2, tal_0, tal_1, ep_0, ep_1, st_, st2_, tu_nil, tu_c, w_0, w_s, ca_ok, at1, at2_0, at2_1, at4_0, at4_1, at4_2, at4_3, bo_nil, bo_c, io_nil, io_c, is_int, is_intb, is_tup, g_0, g_s, p_d, p_own, p_ref, d_d, d_own, a_d, a_own, a_ref, c_lst, c_dct, pk_nil, pk_cons, sa_nil, sa_cons, ao_nil, ao_cons, b_add, b_sub, b_mul, b_div, b_mod, b_pow, b_cat, n_int, n_bl, cv, c_eq, c_ne, c_lt, c_le, c_gt, c_ge, c_in, c_notIn, eq_int, x_lst, x_tup, x_dct, tr_bl, tr_int, bi_len, bi_lent, bi_abs, bi_int, bi_all, bi_list, bi_listk, bi_listt, bi_tuple, bi_tuplet, io_lst, io_klst, io_tup, k_nil, k_cons, k_asg, k_asgS, k_asgN, k_setix, k_ex, k_ret, k_retN, k_iff, k_whl, k_for, k_brk, k_cont, lo_nil, lo_cons, li_some, as_nm, as_tup, as_0, as_s, f_rt, f_own, f_nx, R.bind_ok, R.of_some, Option.bind_some, Option.map_some, List.length_cons, List.length_nil, List.set_cons_zero, List.set_cons_succ, List.map_cons, List.map_nil, List.replicate, List.cons_append, List.nil_append, if_true, if_false, Bool.false_eq_true, k3, k4, y2]
    have eg5 : semS (C (n + 3)) gs 100000 g5 [some (.ref 0), some (.d (fr a)), some (.d (fr b)), some (I 3), some (.d (fr x)), some (.d (fr s)), none, none, none] S2 = .ok (.rt (.d (.tup [fr (a.1 + (i - 2) * s.1, a.2 + (i - 2) * s.2), fr (a.1 + m * s.1, a.2 + m * s.2)])), [some (.ref 0), some (.d (fr a)), some (.d (fr b)), some (I 3), some (.d (fr (a.1 + (i - 2) * s.1, a.2 + (i - 2) * s.2))), some (.d (fr s)), some (I (i - 2)), some (I m), none]) S4 := by
      have t : (sem (C (n + 3)) gs (.cmp .Eq (.var 3) (.kI 3))).ts [some (.ref 0), some (.d (fr a)), some (.d (fr b)), some (I 3), some (.d (fr x)), some (.d (fr s)), none, none, none] S2 = .ok true S2 := by simp [e_kN, e_kB, e_kI, e_kS, e_var, e_glb, e_fnv, e_typ, e_neg, e_bin, e_cmp, e_chn, e_and, e_or, e_not, e_ife, e_tup, e_lst, e_ix, e_slc, e_call, e_bi, e_mt, e_lc, e_dc, t_and, t_or, t_not, t_var, t_cmp, t_chn, t_call, t_bi, t_ix, i_var, i_call, i_bi, i_rng, i_zip, ss_nil, ss_cons, so_none, so_some, ea_nil, ea_cons, an_1, an_2, or_1, or_2, tan_1, tan_2, tor_1, tor_2, tal_0, tal_1, ep_0, ep_1, st_, st2_, tu_nil, tu_c, w_0, w_s, ca_ok, at1, at2_0, at2_1, at4_0, at4_1, at4_2, at4_3, bo_nil, bo_c, io_nil, io_c, is_int, is_intb, is_tup, g_0, g_s, p_d, p_own, p_ref, d_d, d_own, a_d, a_own, a_ref, c_lst, c_dct, pk_nil, pk_cons, sa_nil, sa_cons, ao_nil, ao_cons, b_add, b_sub, b_mul, b_div, b_mod, b_pow, b_cat, n_int, n_bl, cv, c_eq, c_ne, c_lt, c_le, c_gt, c_ge, c_in, c_notIn, eq_int, x_lst, x_tup, x_dct, tr_bl, tr_int, bi_len, bi_lent, bi_abs, bi_int, bi_all, bi_list, bi_listk, bi_listt, bi_tuple, bi_tuplet, io_lst, io_klst, io_tup, k_nil, k_cons, k_asg, k_asgS, k_asgN, k_setix, k_ex, k_ret, k_retN, k_iff, k_whl, k_for, k_brk, k_cont, lo_nil, lo_cons, li_some, as_nm, as_tup, as_0, as_s, f_rt, f_own, f_nx, R.bind_ok, R.of_some, Option.bind_some, Option.map_some, List.length_cons, List.length_nil, List.set_cons_zero, List.set_cons_succ, List.map_cons, List.map_nil, List.replicate, List.cons_append, List.nil_append, if_true, if_false, Bool.false_eq_true, eq_int]
      rw [k_iff, t, R.bind_ok, if_pos rfl]
      unfold g5b
      rw [k_step f1, k_step f2, k_step f3, k_cons, f4]
      rfl
    refine ⟨_, _, S4, start (a.1 + (i - 2) * s.1, a.2 + (i - 2) * s.2) (a.1 + m * s.1, a.2 + m * s.2) S4 ?_, ?_, ?_, fun e => ?_, c4⟩
    · rw [k_step eg4, k_cons, eg5]
      exact one c4
    · exact ⟨by show -32 ≤ a.1 + (i - 2) * s.1; omega, by show a.1 + (i - 2) * s.1 ≤ 32; omega, by show -32 ≤ a.2 + (i - 2) * s.2; omega, by show a.2 + (i - 2) * s.2 ≤ 32; omega⟩
    · exact ⟨by show -32 ≤ a.1 + m * s.1; omega, by show a.1 + m * s.1 ≤ 32; omega, by show -32 ≤ a.2 + m * s.2; omega, by show a.2 + m * s.2 ≤ 32; omega⟩
    · have q1 : a.1 + (i - 2) * s.1 = a.1 + m * s.1 := congrArg (·.1) e
      have q2 : a.2 + (i - 2) * s.2 = a.2 + m * s.2 := congrArg (·.2) e
      rcases s0 with h | h
      · exact r3 (Int.eq_of_mul_eq_mul_right h (show m * s.1 = (i - 2) * s.1 by omega))
      · exact r3 (Int.eq_of_mul_eq_mul_right h (show m * s.2 = (i - 2) * s.2 by omega))
  have z3' : (w == 3) = false := by simpa using z3
  have eg5 : semS (C (n + 3)) gs 100000 g5 [some (.ref 0), some (.d (fr a)), some (.d (fr b)), some (I w), some (.d (fr x)), some (.d (fr s)), none, none, none] S2 = .ok (.nx, [some (.ref 0), some (.d (fr a)), some (.d (fr b)), some (I w), some (.d (fr x)), some (.d (fr s)), none, none, none]) S2 := by
    simp [e_kN, e_kB, e_kI, e_kS, e_var, e_glb, e_fnv, e_typ, e_neg, e_bin, e_cmp, e_chn, e_and, e_or, e_not, e_ife, e_tup, e_lst, e_ix, e_slc, e_call, e_bi, e_mt, e_lc, e_dc, t_and, t_or, t_not, t_var, t_cmp, t_chn, t_call, t_bi, t_ix, i_var, i_call, i_bi, i_rng, i_zip, ss_nil, ss_cons, so_none, so_some, ea_nil, ea_cons, an_1, an_2, or_1, or_2, tan_1, tan_2, tor_1, tor_2, tal_0, tal_1, ep_0, ep_1, st_, st2_, tu_nil, tu_c, w_0, w_s, ca_ok, at1, at2_0, at2_1, at4_0, at4_1, at4_2, at4_3, bo_nil, bo_c, io_nil, io_c, is_int, is_intb, is_tup, g_0, g_s, p_d, p_own, p_ref, d_d, d_own, a_d, a_own, a_ref, c_lst, c_dct, pk_nil, pk_cons, sa_nil, sa_cons, ao_nil, ao_cons, b_add, b_sub, b_mul, b_div, b_mod, b_pow, b_cat, n_int, n_bl, cv, c_eq, c_ne, c_lt, c_le, c_gt, c_ge, c_in, c_notIn, eq_int, x_lst, x_tup, x_dct, tr_bl, tr_int, bi_len, bi_lent, bi_abs, bi_int, bi_all, bi_list, bi_listk, bi_listt, bi_tuple, bi_tuplet, io_lst, io_klst, io_tup, k_nil, k_cons, k_asg, k_asgS, k_asgN, k_setix, k_ex, k_ret, k_retN, k_iff, k_whl, k_for, k_brk, k_cont, lo_nil, lo_cons, li_some, as_nm, as_tup, as_0, as_s, f_rt, f_own, f_nx, R.bind_ok, R.of_some, Option.bind_some, Option.map_some, List.length_cons, List.length_nil, List.set_cons_zero, List.set_cons_succ, List.map_cons, List.map_nil, List.replicate, List.cons_append, List.nil_append, if_true, if_false, Bool.false_eq_true, eq_int, z3']
  obtain ⟨Q, S5, e6, hQ, nq, c5⟩ := ends_tail n ns S2 c2 x hx (by omega) (some (.d (fr a))) (some (.d (fr b))) (some (I w)) (some (.d (fr s))) none none none
  refine ⟨x, Q, S5, start x Q S5 ?_, hx.mono (by omega), hQ.mono (by omega), nq, c5⟩
  rw [k_step eg4, k_step eg5, k_cons, e6]
  exact one c5
end K03

set_option maxHeartbeats 4000000
namespace K03
open Mi
open PySem (Str PyData)
theorem B.log {k : Nat} {i : Int} (h : B k i) (e : k ≤ 1900) : i.natAbs.log2 < 1900 := by
  rcases Nat.eq_zero_or_pos i.natAbs with z | z
  · rw [z]; simp
  · have := (Nat.log2_lt (by omega)).mpr h
    omega
theorem ok_fr {k : Nat} {p : Int × Int} (h : Bp k p) (e : k ≤ 1900) : okD (fr p) = true := by
  show (decide _ && (decide _ && true)) = true
  rw [decide_eq_true (h.a.log e), decide_eq_true (h.b.log e)]
  rfl
theorem ok_pt {k : Nat} {p : Pt} (h : BP k p) (e : k ≤ 1900) : okD (pt p) = true := by
  show (okD (fr p.1) && (okD (fr p.2) && true)) = true
  rw [ok_fr h.a e, ok_fr h.b e]
  rfl
theorem ok_mt {k : Nat} {m : Mt} (h : MtB k m) (e : k ≤ 1900) : okD m.d = true ∧ dep m.d ≤ 3 ∧ cnt m.d ≤ 20 := by
  cases m with
  | no => exact ⟨rfl, by decide, by decide⟩
  | pt1 p =>
    refine ⟨?_, ?_, ?_⟩
    · have sa : okD (.str "at") = true := by decide +kernel
      show (okD (.str "at") && (okD (pt p) && true)) = true
      rw [sa, ok_pt (h.one p rfl).2 e]; rfl
    · show max 0 (max 2 0) + 1 ≤ 3; omega
    · show (PyData.str "at").bulk + 1 + (6 + 1 + 0) ≤ 20; decide +kernel
  | seg p q =>
    refine ⟨?_, ?_, ?_⟩
    · have sa : okD (.str "along") = true := by decide +kernel
      show (okD (.str "along") && (okD (pt p) && (okD (pt q) && true))) = true
      rw [sa, ok_pt (h.two p q rfl).2.2.1 e, ok_pt (h.two p q rfl).2.2.2 e]; rfl
    · show max 0 (max 2 (max 2 0)) + 1 ≤ 3; omega
    · show (PyData.str "along").bulk + 1 + (6 + 1 + (6 + 1 + 0)) ≤ 20; decide +kernel
theorem pl_B {k : Nat} {P : Int × Int} (h : Bp k P) (h1 : 1 ≤ k) : BP k (pl P) := ⟨⟨h.a, B.mono (k := 1) (by unfold B; show (1 : Int).natAbs < 2 ^ 1; decide) h1⟩, ⟨h.b, B.mono (k := 1) (by unfold B; show (1 : Int).natAbs < 2 ^ 1; decide) h1⟩⟩
theorem duM_B {a b c d : Int × Int} (ha : Bp 6 a) (hb : Bp 6 b) (hc : Bp 6 c) (hd : Bp 6 d) : MtB 30 (duM a b c d) := by
  have two : ∀ P : Int × Int, Bp 6 P → NmP (pl P) ∧ BP 30 (pl P) := fun P h => ⟨pl_nm P, (pl_B h (by omega)).mono (by omega)⟩
  have f := lmax_B (lmin_B ha hb) (lmin_B hc hd)
  have l := lmin_B (lmax_B ha hb) (lmax_B hc hd)
  unfold duM
  split
  · split
    · exact ⟨fun p e => (by cases e), fun p q e => (by cases e)⟩
    · split
      · exact ⟨fun p e => by cases e; exact two _ f, fun p q e => (by cases e)⟩
      · exact ⟨fun p e => (by cases e), fun p q e => by cases e; exact ⟨(two _ f).1, (two _ l).1, (two _ f).2, (two _ l).2⟩⟩
  · split
    · exact ⟨fun p e => (by cases e), fun p q e => (by cases e)⟩
    · next w =>
      split
      · refine ⟨fun p e => ?_, fun p q e => (by cases e)⟩
        cases e
        have w0 : lcr c d a - lcr c d b ≠ 0 := fun z => w (.inl z)
        have B3 := lcr_B hc hd ha
        have bw := B3.sub (lcr_B hc hd hb)
        refine ⟨⟨lo_nm _ _ w0, lo_nm _ _ w0⟩, ⟨Bp.lo ?_ (bw.mono (by omega)), Bp.lo ?_ (bw.mono (by omega))⟩⟩
        · exact (((ha.a.mul bw).mono (l := 29) (by omega)).add ((B3.mul (hb.a.sub ha.a)).mono (by omega)))
        · exact (((ha.b.mul bw).mono (l := 29) (by omega)).add ((B3.mul (hb.b.sub ha.b)).mono (by omega)))
      · exact ⟨fun p e => (by cases e), fun p q e => (by cases e)⟩
theorem img_B {f : Fm} {m : Mt} (S : Store) (hf : FmOk f) (h : MtB 30 m) : MtB 83 (img f m) := by
  have one : ∀ p, NmP p → BP 30 p → NmP (mk f p) ∧ BP 83 (mk f p) := fun p np bp => by
    obtain ⟨_, b, n⟩ := point_run 0 f p S (k := 30) (by omega) hf bp np
    exact ⟨n, b⟩
  cases m with
  | no => exact ⟨fun p e => (by cases e), fun p q e => (by cases e)⟩
  | pt1 p => exact ⟨fun q e => by cases e; exact one p (h.one p rfl).1 (h.one p rfl).2, fun p q e => (by cases e)⟩
  | seg p q =>
    obtain ⟨np, nq, bp, bq⟩ := h.two p q rfl
    have im : img f (.seg p q) = if ah (mk f p) (mk f q) = true then .seg (mk f p) (mk f q) else .seg (mk f q) (mk f p) := rfl
    rw [im]
    split
    · exact ⟨fun p e => (by cases e), fun x y e => by cases e; exact ⟨(one p np bp).1, (one q nq bq).1, (one p np bp).2, (one q nq bq).2⟩⟩
    · exact ⟨fun p e => (by cases e), fun x y e => by cases e; exact ⟨(one q nq bq).1, (one p np bp).1, (one q nq bq).2, (one p np bp).2⟩⟩
abbrev s1 : Sx := .asgS [(.nm 3), (.nm 4)] (.tup [(.call 31 [(.var 1)]), (.call 36 [(.var 1)])])
abbrev s2 : Sx := .asg 5 (.call 37 [(.var 1), (.var 4)])
abbrev s3 : Sx := .asgS [(.nm 6), (.nm 7)] (.call 38 [(.var 1), (.var 4), (.var 5)])
abbrev s4 : Sx := .asg 8 (.call 35 [(.var 3), (.call 34 [(.var 4), (.var 5), (.var 6), (.var 7)])])
abbrev s5 : Sx := .asgS [(.nm 9), (.nm 10), (.nm 11), (.nm 12)] (.lc (.call 32 [(.var 3), (.tup [(.tup [(.ix (.var 13) (.kI 0)), (.kI 1)]), (.tup [(.ix (.var 13) (.kI 1)), (.kI 1)])])]) (.nm 13) (.lst [(.var 4), (.var 5), (.var 6), (.var 7)]) [] [13])
abbrev s6 : Sx := .asg 14 (.lst [(.call 24 [(.var 9), (.var 10), (.var 11), (.var 12)]), (.call 24 [(.var 10), (.var 9), (.var 11), (.var 12)]), (.call 24 [(.var 11), (.var 12), (.var 9), (.var 10)]), (.call 24 [(.var 12), (.var 11), (.var 10), (.var 9)])])
abbrev s7 : Sx := .iff (.orE [(.notE (.call 28 [(.var 14), (.bin .Mult (.lst [(.var 8)]) (.kI 4))])), (.notE (.call 28 [(.ix (.call 24 [(.var 9), (.var 10), (.var 9), (.var 10)]) (.kI 0)), (.kS "along")]))]) [.ret (.kB false)] []
abbrev s8 : Sx := .iff (.andE [(.cmp .IsNot (.var 8) .kN), (.cmp .Eq (.ix (.var 8) (.kI 0)) (.kS "at")), (.notE (.andE [(.call 22 [(.var 9), (.var 10), (.ix (.var 8) (.kI 1))]), (.call 22 [(.var 11), (.var 12), (.ix (.var 8) (.kI 1))]), (.cmp .Eq (.call 21 [(.var 9), (.var 10), (.ix (.var 8) (.kI 1))]) (.kI 0))]))]) [.ret (.kB false)] []
section
variable {ns : List Int} {S : Store} (v0 w2 w3 w4 w5 w6 w7 w8 w9 w10 w11 w12 w13 w14 : Option Val)
theorem t123 (c : Cur ns S) : ∃ f a b p q S1 S2 S', semS (C 39) gs 100000 s1 [v0, some (.ref 0), w2, w3, w4, w5, w6, w7, w8, w9, w10, w11, w12, w13, w14] S = .ok (.nx, [v0, some (.ref 0), w2, some (.d (fm f)), some (.d (fr a)), w5, w6, w7, w8, w9, w10, w11, w12, w13, w14]) S1 ∧
    semS (C 39) gs 100000 s2 [v0, some (.ref 0), w2, some (.d (fm f)), some (.d (fr a)), w5, w6, w7, w8, w9, w10, w11, w12, w13, w14] S1 = .ok (.nx, [v0, some (.ref 0), w2, some (.d (fm f)), some (.d (fr a)), some (.d (fr b)), w6, w7, w8, w9, w10, w11, w12, w13, w14]) S2 ∧
    semS (C 39) gs 100000 s3 [v0, some (.ref 0), w2, some (.d (fm f)), some (.d (fr a)), some (.d (fr b)), w6, w7, w8, w9, w10, w11, w12, w13, w14] S2 = .ok (.nx, [v0, some (.ref 0), w2, some (.d (fm f)), some (.d (fr a)), some (.d (fr b)), some (.d (fr p)), some (.d (fr q)), w8, w9, w10, w11, w12, w13, w14]) S' ∧
    FmOk f ∧ Bp 6 a ∧ Bp 6 b ∧ Bp 6 p ∧ Bp 6 q ∧ a ≠ b ∧ p ≠ q ∧ Cur ns S' := by
  obtain ⟨f, S0, e0, hf, c0⟩ := frame_run 36 ns S c
  obtain ⟨a, S1, e1, ha, c1⟩ := place_run 37 ns S0 c0
  obtain ⟨b, S2, e2, hb, ne, c2⟩ := other_run 36 ns S1 c1 a ha (by omega)
  obtain ⟨p, q, S3, e3, hp, hq, ne2, c3⟩ := ends_run 35 ns S2 c2 a b ha hb ne
  have e0 : C 39 31 [.ref 0] S = .ok (.d (fm f)) S0 := e0
  have e1 : C 39 36 [.ref 0] S0 = .ok (.d (fr a)) S1 := e1
  have e2 : C 39 37 [.ref 0, .d (fr a)] S1 = .ok (.d (fr b)) S2 := e2
  have e3 : C 39 38 [.ref 0, .d (fr a), .d (fr b)] S2 = .ok (.d (.tup [fr p, fr q])) S3 := e3
  have y2 : 2 ≤ PySem.sizeLine := by decide
  refine ⟨f, a, b, p, q, S1, S2, S3, ?_, ?_, ?_, hf, ha.bp (by omega), hb.bp (by omega), hp.bp (by omega), hq.bp (by omega), ne, ne2, c3⟩
  · simp [e_kN, e_kB, e_kI, e_kS, e_var, e_glb, e_fnv, e_typ, e_neg, e_bin, e_cmp, e_chn, e_and, e_or, e_not, e_ife, e_tup, e_lst, e_ix, e_slc, e_call, e_bi, e_mt, e_lc, e_dc, t_and, t_or, t_not, t_var, t_cmp, t_chn, t_call, t_bi, t_ix, i_var, i_call, i_bi, i_rng, i_zip, ss_nil, ss_cons, so_none, so_some, ea_nil, ea_cons, an_1, an_2, or_1, or_2, tan_1, tan_2, tor_1, tor_2, tal_0, tal_1, ep_0, ep_1, st_, st2_, tu_nil, tu_c, w_0, w_s, ca_ok, at1, at2_0, at2_1, at4_0, at4_1, at4_2, at4_3, bo_nil, bo_c, io_nil, io_c, is_int, is_intb, is_tup, g_0, g_s, p_d, p_own, p_ref, d_d, d_own, a_d, a_own, a_ref, c_lst, c_dct, pk_nil, pk_cons, sa_nil, sa_cons, ao_nil, ao_cons, b_add, b_sub, b_mul, b_div, b_mod, b_pow, b_cat, n_int, n_bl, cv, c_eq, c_ne, c_lt, c_le, c_gt, c_ge, c_in, c_notIn, eq_int, x_lst, x_tup, x_dct, tr_bl, tr_int, bi_len, bi_lent, bi_abs, bi_int, bi_all, bi_list, bi_listk, bi_listt, bi_tuple, bi_tuplet, io_lst, io_klst, io_tup, k_nil, k_cons, k_asg, k_asgS, k_asgN, k_setix, k_ex, k_ret, k_retN, k_iff, k_whl, k_for, k_brk, k_cont, lo_nil, lo_cons, li_some, as_nm, as_tup, as_0, as_s, f_rt, f_own, f_nx, R.bind_ok, R.of_some, Option.bind_some, Option.map_some, List.length_cons, List.length_nil, List.set_cons_zero, List.set_cons_succ, List.map_cons, List.map_nil, List.replicate, List.cons_append, List.nil_append, if_true, if_false, Bool.false_eq_true, e0, e1, y2]
  · simp [e_kN, e_kB, e_kI, e_kS, e_var, e_glb, e_fnv, e_typ, e_neg, e_bin, e_cmp, e_chn, e_and, e_or, e_not, e_ife, e_tup, e_lst, e_ix, e_slc, e_call, e_bi, e_mt, e_lc, e_dc, t_and, t_or, t_not, t_var, t_cmp, t_chn, t_call, t_bi, t_ix, i_var, i_call, i_bi, i_rng, i_zip, ss_nil, ss_cons, so_none, so_some, ea_nil, ea_cons, an_1, an_2, or_1, or_2, tan_1, tan_2, tor_1, tor_2, tal_0, tal_1, ep_0, ep_1, st_, st2_, tu_nil, tu_c, w_0, w_s, ca_ok, at1, at2_0, at2_1, at4_0, at4_1, at4_2, at4_3, bo_nil, bo_c, io_nil, io_c, is_int, is_intb, is_tup, g_0, g_s, p_d, p_own, p_ref, d_d, d_own, a_d, a_own, a_ref, c_lst, c_dct, pk_nil, pk_cons, sa_nil, sa_cons, ao_nil, ao_cons, b_add, b_sub, b_mul, b_div, b_mod, b_pow, b_cat, n_int, n_bl, cv, c_eq, c_ne, c_lt, c_le, c_gt, c_ge, c_in, c_notIn, eq_int, x_lst, x_tup, x_dct, tr_bl, tr_int, bi_len, bi_lent, bi_abs, bi_int, bi_all, bi_list, bi_listk, bi_listt, bi_tuple, bi_tuplet, io_lst, io_klst, io_tup, k_nil, k_cons, k_asg, k_asgS, k_asgN, k_setix, k_ex, k_ret, k_retN, k_iff, k_whl, k_for, k_brk, k_cont, lo_nil, lo_cons, li_some, as_nm, as_tup, as_0, as_s, f_rt, f_own, f_nx, R.bind_ok, R.of_some, Option.bind_some, Option.map_some, List.length_cons, List.length_nil, List.set_cons_zero, List.set_cons_succ, List.map_cons, List.map_nil, List.replicate, List.cons_append, List.nil_append, if_true, if_false, Bool.false_eq_true, e2]
  · simp [e_kN, e_kB, e_kI, e_kS, e_var, e_glb, e_fnv, e_typ, e_neg, e_bin, e_cmp, e_chn, e_and, e_or, e_not, e_ife, e_tup, e_lst, e_ix, e_slc, e_call, e_bi, e_mt, e_lc, e_dc, t_and, t_or, t_not, t_var, t_cmp, t_chn, t_call, t_bi, t_ix, i_var, i_call, i_bi, i_rng, i_zip, ss_nil, ss_cons, so_none, so_some, ea_nil, ea_cons, an_1, an_2, or_1, or_2, tan_1, tan_2, tor_1, tor_2, tal_0, tal_1, ep_0, ep_1, st_, st2_, tu_nil, tu_c, w_0, w_s, ca_ok, at1, at2_0, at2_1, at4_0, at4_1, at4_2, at4_3, bo_nil, bo_c, io_nil, io_c, is_int, is_intb, is_tup, g_0, g_s, p_d, p_own, p_ref, d_d, d_own, a_d, a_own, a_ref, c_lst, c_dct, pk_nil, pk_cons, sa_nil, sa_cons, ao_nil, ao_cons, b_add, b_sub, b_mul, b_div, b_mod, b_pow, b_cat, n_int, n_bl, cv, c_eq, c_ne, c_lt, c_le, c_gt, c_ge, c_in, c_notIn, eq_int, x_lst, x_tup, x_dct, tr_bl, tr_int, bi_len, bi_lent, bi_abs, bi_int, bi_all, bi_list, bi_listk, bi_listt, bi_tuple, bi_tuplet, io_lst, io_klst, io_tup, k_nil, k_cons, k_asg, k_asgS, k_asgN, k_setix, k_ex, k_ret, k_retN, k_iff, k_whl, k_for, k_brk, k_cont, lo_nil, lo_cons, li_some, as_nm, as_tup, as_0, as_s, f_rt, f_own, f_nx, R.bind_ok, R.of_some, Option.bind_some, Option.map_some, List.length_cons, List.length_nil, List.set_cons_zero, List.set_cons_succ, List.map_cons, List.map_nil, List.replicate, List.cons_append, List.nil_append, if_true, if_false, Bool.false_eq_true, e3]
end
section
variable {S : Store} (v0 v1 w2 w8 w9 w10 w11 w12 w13 w14 : Option Val) (f : Fm) (a b p q : Int × Int) (hf : FmOk f) (ha : Bp 6 a) (hb : Bp 6 b) (hp : Bp 6 p) (hq : Bp 6 q)
include hf ha hb hp hq
theorem t4 : semS (C 39) gs 100000 s4 [v0, v1, w2, some (.d (fm f)), some (.d (fr a)), some (.d (fr b)), some (.d (fr p)), some (.d (fr q)), w8, w9, w10, w11, w12, w13, w14] S = .ok (.nx, [v0, v1, w2, some (.d (fm f)), some (.d (fr a)), some (.d (fr b)), some (.d (fr p)), some (.d (fr q)), some (.d (img f (duM a b p q)).d), w9, w10, w11, w12, w13, w14]) S := by
  have e1 : C 39 34 [.d (fr a), .d (fr b), .d (fr p), .d (fr q)] S = .ok (duM a b p q).lv S := due_run 37 a b p q S ha hb hp hq
  have e2 : C 39 35 [.d (fm f), .d (duM a b p q).l] S = .ok (.d (img f (duM a b p q)).d) S := told_run 36 f _ S (k := 30) (by omega) hf (duM_B ha hb hp hq)
  have e3 : (duM a b p q).lv.arg = some (.d (duM a b p q).l) := by cases duM a b p q <;> rfl
  simp [e_kN, e_kB, e_kI, e_kS, e_var, e_glb, e_fnv, e_typ, e_neg, e_bin, e_cmp, e_chn, e_and, e_or, e_not, e_ife, e_tup, e_lst, e_ix, e_slc, e_call, e_bi, e_mt, e_lc, e_dc, t_and, t_or, t_not, t_var, t_cmp, t_chn, t_call, t_bi, t_ix, i_var, i_call, i_bi, i_rng, i_zip, ss_nil, ss_cons, so_none, so_some, ea_nil, ea_cons, an_1, an_2, or_1, or_2, tan_1, tan_2, tor_1, tor_2, tal_0, tal_1, ep_0, ep_1, st_, st2_, tu_nil, tu_c, w_0, w_s, ca_ok, at1, at2_0, at2_1, at4_0, at4_1, at4_2, at4_3, bo_nil, bo_c, io_nil, io_c, is_int, is_intb, is_tup, g_0, g_s, p_d, p_own, p_ref, d_d, d_own, a_d, a_own, a_ref, c_lst, c_dct, pk_nil, pk_cons, sa_nil, sa_cons, ao_nil, ao_cons, b_add, b_sub, b_mul, b_div, b_mod, b_pow, b_cat, n_int, n_bl, cv, c_eq, c_ne, c_lt, c_le, c_gt, c_ge, c_in, c_notIn, eq_int, x_lst, x_tup, x_dct, tr_bl, tr_int, bi_len, bi_lent, bi_abs, bi_int, bi_all, bi_list, bi_listk, bi_listt, bi_tuple, bi_tuplet, io_lst, io_klst, io_tup, k_nil, k_cons, k_asg, k_asgS, k_asgN, k_setix, k_ex, k_ret, k_retN, k_iff, k_whl, k_for, k_brk, k_cont, lo_nil, lo_cons, li_some, as_nm, as_tup, as_0, as_s, f_rt, f_own, f_nx, R.bind_ok, R.of_some, Option.bind_some, Option.map_some, List.length_cons, List.length_nil, List.set_cons_zero, List.set_cons_succ, List.map_cons, List.map_nil, List.replicate, List.cons_append, List.nil_append, if_true, if_false, Bool.false_eq_true, e1, e2, e3]
theorem t5 : semS (C 39) gs 100000 s5 [v0, v1, w2, some (.d (fm f)), some (.d (fr a)), some (.d (fr b)), some (.d (fr p)), some (.d (fr q)), w8, w9, w10, w11, w12, w13, w14] S = .ok (.nx, [v0, v1, w2, some (.d (fm f)), some (.d (fr a)), some (.d (fr b)), some (.d (fr p)), some (.d (fr q)), w8, some (.d (pt (mk f (pl a)))), some (.d (pt (mk f (pl b)))), some (.d (pt (mk f (pl p)))), some (.d (pt (mk f (pl q)))), w13, w14]) S := by
  have one : ∀ P : Int × Int, Bp 6 P → C 39 32 [.d (fm f), .d (.tup [.tup [.int P.1, .int 1], .tup [.int P.2, .int 1]])] S = .ok (.d (pt (mk f (pl P)))) S := fun P h => (point_run 37 f (pl P) S (k := 6) (by omega) hf (pl_B h (by omega)) (pl_nm P)).1
  have e1 := one a ha
  have e2 := one b hb
  have e3 := one p hp
  have e4 := one q hq
  have y2 : 2 ≤ PySem.sizeLine := by decide
  have y4 : 4 ≤ PySem.sizeLine := by decide
  have it : (sem (C 39) gs (.lst [(.var 4), (.var 5), (.var 6), (.var 7)])).it [v0, v1, w2, some (.d (fm f)), some (.d (fr a)), some (.d (fr b)), some (.d (fr p)), some (.d (fr q)), w8, w9, w10, w11, w12, w13, w14] S = .ok [fr a, fr b, fr p, fr q] S := by
    rw [i_lst]
    simp only [e_kN, e_kB, e_kI, e_kS, e_var, e_glb, e_fnv, e_typ, e_neg, e_bin, e_cmp, e_chn, e_and, e_or, e_not, e_ife, e_tup, e_lst, e_ix, e_slc, e_call, e_bi, e_mt, e_lc, e_dc, t_and, t_or, t_not, t_var, t_cmp, t_chn, t_call, t_bi, t_ix, i_var, i_call, i_bi, i_rng, i_zip, ss_nil, ss_cons, so_none, so_some, ea_nil, ea_cons, an_1, an_2, or_1, or_2, tan_1, tan_2, tor_1, tor_2, tal_0, tal_1, ep_0, ep_1, st_, st2_, tu_nil, tu_c, w_0, w_s, ca_ok, at1, at2_0, at2_1, at4_0, at4_1, at4_2, at4_3, bo_nil, bo_c, io_nil, io_c, is_int, is_intb, is_tup, g_0, g_s, p_d, p_own, p_ref, d_d, d_own, a_d, a_own, a_ref, c_lst, c_dct, pk_nil, pk_cons, sa_nil, sa_cons, ao_nil, ao_cons, b_add, b_sub, b_mul, b_div, b_mod, b_pow, b_cat, n_int, n_bl, cv, c_eq, c_ne, c_lt, c_le, c_gt, c_ge, c_in, c_notIn, eq_int, x_lst, x_tup, x_dct, tr_bl, tr_int, bi_len, bi_lent, bi_abs, bi_int, bi_all, bi_list, bi_listk, bi_listt, bi_tuple, bi_tuplet, io_lst, io_klst, io_tup, k_nil, k_cons, k_asg, k_asgS, k_asgN, k_setix, k_ex, k_ret, k_retN, k_iff, k_whl, k_for, k_brk, k_cont, lo_nil, lo_cons, li_some, as_nm, as_tup, as_0, as_s, f_rt, f_own, f_nx, R.bind_ok, R.of_some, Option.bind_some, Option.map_some, List.length_cons, List.length_nil, List.set_cons_zero, List.set_cons_succ, List.map_cons, List.map_nil, List.replicate, List.cons_append, List.nil_append, if_true, if_false, Bool.false_eq_true, if_pos y4]
  have al : ∀ (x y z u : D) (E : Env), asgT (.seq [.nm 9, .nm 10, .nm 11, .nm 12]) (.lst [x, y, z, u]) E = asgTs [.nm 9, .nm 10, .nm 11, .nm 12] [x, y, z, u] E := fun _ _ _ _ _ => rfl
  simp [e_kN, e_kB, e_kI, e_kS, e_var, e_glb, e_fnv, e_typ, e_neg, e_bin, e_cmp, e_chn, e_and, e_or, e_not, e_ife, e_tup, e_lst, e_ix, e_slc, e_call, e_bi, e_mt, e_lc, e_dc, t_and, t_or, t_not, t_var, t_cmp, t_chn, t_call, t_bi, t_ix, i_var, i_call, i_bi, i_rng, i_zip, ss_nil, ss_cons, so_none, so_some, ea_nil, ea_cons, an_1, an_2, or_1, or_2, tan_1, tan_2, tor_1, tor_2, tal_0, tal_1, ep_0, ep_1, st_, st2_, tu_nil, tu_c, w_0, w_s, ca_ok, at1, at2_0, at2_1, at4_0, at4_1, at4_2, at4_3, bo_nil, bo_c, io_nil, io_c, is_int, is_intb, is_tup, g_0, g_s, p_d, p_own, p_ref, d_d, d_own, a_d, a_own, a_ref, c_lst, c_dct, pk_nil, pk_cons, sa_nil, sa_cons, ao_nil, ao_cons, b_add, b_sub, b_mul, b_div, b_mod, b_pow, b_cat, n_int, n_bl, cv, c_eq, c_ne, c_lt, c_le, c_gt, c_ge, c_in, c_notIn, eq_int, x_lst, x_tup, x_dct, tr_bl, tr_int, bi_len, bi_lent, bi_abs, bi_int, bi_all, bi_list, bi_listk, bi_listt, bi_tuple, bi_tuplet, io_lst, io_klst, io_tup, k_nil, k_cons, k_asg, k_asgS, k_asgN, k_setix, k_ex, k_ret, k_retN, k_iff, k_whl, k_for, k_brk, k_cont, lo_nil, lo_cons, li_some, as_nm, as_tup, as_0, as_s, f_rt, f_own, f_nx, R.bind_ok, R.of_some, Option.bind_some, Option.map_some, List.length_cons, List.length_nil, List.set_cons_zero, List.set_cons_succ, List.map_cons, List.map_nil, List.replicate, List.cons_append, List.nil_append, if_true, if_false, Bool.false_eq_true, it, e1, e2, e3, e4, al, y2]
end
theorem rep4 (d : D) : binD .Mult (.lst [d]) (.int 4) = some (.own (.lst [d, d, d, d])) := rfl
section
variable {S : Store} (v0 v1 w2 w3 w4 w5 w6 w7 w8 w13 w14 : Option Val) (a b p q : Pt) (ha : BP 40 a) (hb : BP 40 b) (hp : BP 40 p) (hq : BP 40 q) (na : NmP a) (nb : NmP b) (np : NmP p) (nq : NmP q) (ne : a ≠ b) (ne2 : p ≠ q) (m : Mt) (hm : Sp a b p q m) (hB : MtB 83 m)
include ha hb hp hq na nb np nq ne ne2 hm
theorem t6 : semS (C 39) gs 100000 s6 [v0, v1, w2, w3, w4, w5, w6, w7, w8, some (.d (pt a)), some (.d (pt b)), some (.d (pt p)), some (.d (pt q)), w13, w14] S = .ok (.nx, [v0, v1, w2, w3, w4, w5, w6, w7, w8, some (.d (pt a)), some (.d (pt b)), some (.d (pt p)), some (.d (pt q)), w13, some (.d (.lst [m.d, m.d, m.d, m.d]))]) S := by
  have e1 : C 39 24 [.d (pt a), .d (pt b), .d (pt p), .d (pt q)] S = .ok (.d m.d) S := by rw [sp_one hm (mt_sp na nb np nq ne ne2)]; exact meet_run 32 a b p q S (k := 40) (by omega) ha hb hp hq na nb np nq ne ne2
  have e2 : C 39 24 [.d (pt b), .d (pt a), .d (pt p), .d (pt q)] S = .ok (.d m.d) S := by rw [sp_one (sp_ab na nb hm) (mt_sp nb na np nq (Ne.symm ne) ne2)]; exact meet_run 32 b a p q S (k := 40) (by omega) hb ha hp hq nb na np nq (Ne.symm ne) ne2
  have e3 : C 39 24 [.d (pt p), .d (pt q), .d (pt a), .d (pt b)] S = .ok (.d m.d) S := by rw [sp_one (sp_two hm) (mt_sp np nq na nb ne2 ne)]; exact meet_run 32 p q a b S (k := 40) (by omega) hp hq ha hb np nq na nb ne2 ne
  have e4 : C 39 24 [.d (pt q), .d (pt p), .d (pt b), .d (pt a)] S = .ok (.d m.d) S := by rw [sp_one (sp_ab np nq (sp_cd na nb (sp_two hm))) (mt_sp nq np nb na (Ne.symm ne2) (Ne.symm ne))]; exact meet_run 32 q p b a S (k := 40) (by omega) hq hp hb ha nq np nb na (Ne.symm ne2) (Ne.symm ne)
  have y4 : 4 ≤ PySem.sizeLine := by decide
  simp [e_kN, e_kB, e_kI, e_kS, e_var, e_glb, e_fnv, e_typ, e_neg, e_bin, e_cmp, e_chn, e_and, e_or, e_not, e_ife, e_tup, e_lst, e_ix, e_slc, e_call, e_bi, e_mt, e_lc, e_dc, t_and, t_or, t_not, t_var, t_cmp, t_chn, t_call, t_bi, t_ix, i_var, i_call, i_bi, i_rng, i_zip, ss_nil, ss_cons, so_none, so_some, ea_nil, ea_cons, an_1, an_2, or_1, or_2, tan_1, tan_2, tor_1, tor_2, tal_0, tal_1, ep_0, ep_1, st_, st2_, tu_nil, tu_c, w_0, w_s, ca_ok, at1, at2_0, at2_1, at4_0, at4_1, at4_2, at4_3, bo_nil, bo_c, io_nil, io_c, is_int, is_intb, is_tup, g_0, g_s, p_d, p_own, p_ref, d_d, d_own, a_d, a_own, a_ref, c_lst, c_dct, pk_nil, pk_cons, sa_nil, sa_cons, ao_nil, ao_cons, b_add, b_sub, b_mul, b_div, b_mod, b_pow, b_cat, n_int, n_bl, cv, c_eq, c_ne, c_lt, c_le, c_gt, c_ge, c_in, c_notIn, eq_int, x_lst, x_tup, x_dct, tr_bl, tr_int, bi_len, bi_lent, bi_abs, bi_int, bi_all, bi_list, bi_listk, bi_listt, bi_tuple, bi_tuplet, io_lst, io_klst, io_tup, k_nil, k_cons, k_asg, k_asgS, k_asgN, k_setix, k_ex, k_ret, k_retN, k_iff, k_whl, k_for, k_brk, k_cont, lo_nil, lo_cons, li_some, as_nm, as_tup, as_0, as_s, f_rt, f_own, f_nx, R.bind_ok, R.of_some, Option.bind_some, Option.map_some, List.length_cons, List.length_nil, List.set_cons_zero, List.set_cons_succ, List.map_cons, List.map_nil, List.replicate, List.cons_append, List.nil_append, if_true, if_false, Bool.false_eq_true, e1, e2, e3, e4, y4]
include hB
theorem t7 : semS (C 39) gs 100000 s7 [v0, v1, w2, w3, w4, w5, w6, w7, some (.d m.d), some (.d (pt a)), some (.d (pt b)), some (.d (pt p)), some (.d (pt q)), w13, some (.d (.lst [m.d, m.d, m.d, m.d]))] S = .ok (.nx, [v0, v1, w2, w3, w4, w5, w6, w7, some (.d m.d), some (.d (pt a)), some (.d (pt b)), some (.d (pt p)), some (.d (pt q)), w13, some (.d (.lst [m.d, m.d, m.d, m.d]))]) S := by
  obtain ⟨o1, o2, o3⟩ := ok_mt hB (by omega)
  have s : C 39 28 [.d (.lst [m.d, m.d, m.d, m.d]), .d (.lst [m.d, m.d, m.d, m.d])] S = .ok (.d (.bl true)) S := by
    refine same_run 38 _ S ?_ ?_ ?_
    · show (okD m.d && (okD m.d && (okD m.d && (okD m.d && true)))) = true
      rw [o1]; rfl
    · show max (dep m.d) (max (dep m.d) (max (dep m.d) (max (dep m.d) 0))) + 1 ≤ 40
      omega
    · show cnt m.d + 1 + (cnt m.d + 1 + (cnt m.d + 1 + (cnt m.d + 1 + 0))) ≤ 8000
      omega
  have s2 : C 39 28 [.d (.str "along"), .d (.str "along")] S = .ok (.d (.bl true)) S := same_run 38 _ S (by decide +kernel) (by decide +kernel) (by decide +kernel)
  have y1 : 1 ≤ PySem.sizeLine := by decide
  obtain ⟨x, y, e⟩ : ∃ x y, mt a b a b = .seg x y := by
    have sp := mt_sp na nb na nb ne ne
    cases h : mt a b a b with
    | no => rw [h] at sp; exact absurd ⟨on_end1 na nb, on_end1 na nb⟩ (sp a na)
    | pt1 z =>
      rw [h] at sp
      have q1 := sp.2.2 a na ⟨on_end1 na nb, on_end1 na nb⟩
      have q2 := sp.2.2 b nb ⟨on_end2 na nb, on_end2 na nb⟩
      exact absurd (q1.trans q2.symm) ne
    | seg x y => exact ⟨x, y, rfl⟩
  have e5 : C 39 24 [.d (pt a), .d (pt b), .d (pt a), .d (pt b)] S = .ok (.d (.tup [.str "along", pt x, pt y])) S := by
    have := meet_run 32 a b a b S (k := 40) (by omega) ha hb ha hb na nb na nb ne ne
    rw [e] at this
    exact this
  have at0 : ∀ x y z : D, L2.atI [x, y, z] 0 = some x := fun _ _ _ => rfl
  simp [e_kN, e_kB, e_kI, e_kS, e_var, e_glb, e_fnv, e_typ, e_neg, e_bin, e_cmp, e_chn, e_and, e_or, e_not, e_ife, e_tup, e_lst, e_ix, e_slc, e_call, e_bi, e_mt, e_lc, e_dc, t_and, t_or, t_not, t_var, t_cmp, t_chn, t_call, t_bi, t_ix, i_var, i_call, i_bi, i_rng, i_zip, ss_nil, ss_cons, so_none, so_some, ea_nil, ea_cons, an_1, an_2, or_1, or_2, tan_1, tan_2, tor_1, tor_2, tal_0, tal_1, ep_0, ep_1, st_, st2_, tu_nil, tu_c, w_0, w_s, ca_ok, at1, at2_0, at2_1, at4_0, at4_1, at4_2, at4_3, bo_nil, bo_c, io_nil, io_c, is_int, is_intb, is_tup, g_0, g_s, p_d, p_own, p_ref, d_d, d_own, a_d, a_own, a_ref, c_lst, c_dct, pk_nil, pk_cons, sa_nil, sa_cons, ao_nil, ao_cons, b_add, b_sub, b_mul, b_div, b_mod, b_pow, b_cat, n_int, n_bl, cv, c_eq, c_ne, c_lt, c_le, c_gt, c_ge, c_in, c_notIn, eq_int, x_lst, x_tup, x_dct, tr_bl, tr_int, bi_len, bi_lent, bi_abs, bi_int, bi_all, bi_list, bi_listk, bi_listt, bi_tuple, bi_tuplet, io_lst, io_klst, io_tup, k_nil, k_cons, k_asg, k_asgS, k_asgN, k_setix, k_ex, k_ret, k_retN, k_iff, k_whl, k_for, k_brk, k_cont, lo_nil, lo_cons, li_some, as_nm, as_tup, as_0, as_s, f_rt, f_own, f_nx, R.bind_ok, R.of_some, Option.bind_some, Option.map_some, List.length_cons, List.length_nil, List.set_cons_zero, List.set_cons_succ, List.map_cons, List.map_nil, List.replicate, List.cons_append, List.nil_append, if_true, if_false, Bool.false_eq_true, s, s2, e5, rep4, y1, at0]
theorem t8 : semS (C 39) gs 100000 s8 [v0, v1, w2, w3, w4, w5, w6, w7, some (.d m.d), some (.d (pt a)), some (.d (pt b)), some (.d (pt p)), some (.d (pt q)), w13, w14] S = .ok (.nx, [v0, v1, w2, w3, w4, w5, w6, w7, some (.d m.d), some (.d (pt a)), some (.d (pt b)), some (.d (pt p)), some (.d (pt q)), w13, w14]) S := by
  have at0 : ∀ x y z : D, L2.atI [x, y, z] 0 = some x := fun _ _ _ => rfl
  cases m with
  | no =>
    have c1 : cmpD .IsNot .non .non = some false := rfl
    simp [e_kN, e_kB, e_kI, e_kS, e_var, e_glb, e_fnv, e_typ, e_neg, e_bin, e_cmp, e_chn, e_and, e_or, e_not, e_ife, e_tup, e_lst, e_ix, e_slc, e_call, e_bi, e_mt, e_lc, e_dc, t_and, t_or, t_not, t_var, t_cmp, t_chn, t_call, t_bi, t_ix, i_var, i_call, i_bi, i_rng, i_zip, ss_nil, ss_cons, so_none, so_some, ea_nil, ea_cons, an_1, an_2, or_1, or_2, tan_1, tan_2, tor_1, tor_2, tal_0, tal_1, ep_0, ep_1, st_, st2_, tu_nil, tu_c, w_0, w_s, ca_ok, at1, at2_0, at2_1, at4_0, at4_1, at4_2, at4_3, bo_nil, bo_c, io_nil, io_c, is_int, is_intb, is_tup, g_0, g_s, p_d, p_own, p_ref, d_d, d_own, a_d, a_own, a_ref, c_lst, c_dct, pk_nil, pk_cons, sa_nil, sa_cons, ao_nil, ao_cons, b_add, b_sub, b_mul, b_div, b_mod, b_pow, b_cat, n_int, n_bl, cv, c_eq, c_ne, c_lt, c_le, c_gt, c_ge, c_in, c_notIn, eq_int, x_lst, x_tup, x_dct, tr_bl, tr_int, bi_len, bi_lent, bi_abs, bi_int, bi_all, bi_list, bi_listk, bi_listt, bi_tuple, bi_tuplet, io_lst, io_klst, io_tup, k_nil, k_cons, k_asg, k_asgS, k_asgN, k_setix, k_ex, k_ret, k_retN, k_iff, k_whl, k_for, k_brk, k_cont, lo_nil, lo_cons, li_some, as_nm, as_tup, as_0, as_s, f_rt, f_own, f_nx, R.bind_ok, R.of_some, Option.bind_some, Option.map_some, List.length_cons, List.length_nil, List.set_cons_zero, List.set_cons_succ, List.map_cons, List.map_nil, List.replicate, List.cons_append, List.nil_append, if_true, if_false, Bool.false_eq_true, Mt.d, c1]
  | seg x y =>
    have c1 : cmpD .IsNot (.tup [.str "along", pt x, pt y]) .non = some true := rfl
    have c2 : eqD (.str "along") (.str "at") = some false := by decide +kernel
    simp [e_kN, e_kB, e_kI, e_kS, e_var, e_glb, e_fnv, e_typ, e_neg, e_bin, e_cmp, e_chn, e_and, e_or, e_not, e_ife, e_tup, e_lst, e_ix, e_slc, e_call, e_bi, e_mt, e_lc, e_dc, t_and, t_or, t_not, t_var, t_cmp, t_chn, t_call, t_bi, t_ix, i_var, i_call, i_bi, i_rng, i_zip, ss_nil, ss_cons, so_none, so_some, ea_nil, ea_cons, an_1, an_2, or_1, or_2, tan_1, tan_2, tor_1, tor_2, tal_0, tal_1, ep_0, ep_1, st_, st2_, tu_nil, tu_c, w_0, w_s, ca_ok, at1, at2_0, at2_1, at4_0, at4_1, at4_2, at4_3, bo_nil, bo_c, io_nil, io_c, is_int, is_intb, is_tup, g_0, g_s, p_d, p_own, p_ref, d_d, d_own, a_d, a_own, a_ref, c_lst, c_dct, pk_nil, pk_cons, sa_nil, sa_cons, ao_nil, ao_cons, b_add, b_sub, b_mul, b_div, b_mod, b_pow, b_cat, n_int, n_bl, cv, c_eq, c_ne, c_lt, c_le, c_gt, c_ge, c_in, c_notIn, eq_int, x_lst, x_tup, x_dct, tr_bl, tr_int, bi_len, bi_lent, bi_abs, bi_int, bi_all, bi_list, bi_listk, bi_listt, bi_tuple, bi_tuplet, io_lst, io_klst, io_tup, k_nil, k_cons, k_asg, k_asgS, k_asgN, k_setix, k_ex, k_ret, k_retN, k_iff, k_whl, k_for, k_brk, k_cont, lo_nil, lo_cons, li_some, as_nm, as_tup, as_0, as_s, f_rt, f_own, f_nx, R.bind_ok, R.of_some, Option.bind_some, Option.map_some, List.length_cons, List.length_nil, List.set_cons_zero, List.set_cons_succ, List.map_cons, List.map_nil, List.replicate, List.cons_append, List.nil_append, if_true, if_false, Bool.false_eq_true, Mt.d, c1, c2, at0]
  | pt1 x =>
    obtain ⟨nx, ⟨o1, o2⟩, _⟩ := hm
    have bx := (hB.one x rfl).2
    have c1 : cmpD .IsNot (.tup [.str "at", pt x]) .non = some true := rfl
    have c2 : eqD (.str "at") (.str "at") = some true := by decide +kernel
    have z : tn a b x = 0 := by
      unfold on_ at o1
      rw [if_neg ne] at o1
      split at o1
      · assumption
      · cases o1
    have e1 : C 39 22 [.d (pt a), .d (pt b), .d (pt x)] S = .ok (.d (.bl true)) S := by rw [← o1]; exact on_run 34 a b x S (k := 83) (by omega) (ha.mono (by omega)) (hb.mono (by omega)) bx na nb nx
    have e2 : C 39 22 [.d (pt p), .d (pt q), .d (pt x)] S = .ok (.d (.bl true)) S := by rw [← o2]; exact on_run 34 p q x S (k := 83) (by omega) (hp.mono (by omega)) (hq.mono (by omega)) bx np nq nx
    have e3 : C 39 21 [.d (pt a), .d (pt b), .d (pt x)] S = .ok (I 0) S := by rw [← z]; exact turn_run_ 34 a b x S (k := 83) (by omega) (ha.mono (by omega)) (hb.mono (by omega)) bx na nb nx
    simp [e_kN, e_kB, e_kI, e_kS, e_var, e_glb, e_fnv, e_typ, e_neg, e_bin, e_cmp, e_chn, e_and, e_or, e_not, e_ife, e_tup, e_lst, e_ix, e_slc, e_call, e_bi, e_mt, e_lc, e_dc, t_and, t_or, t_not, t_var, t_cmp, t_chn, t_call, t_bi, t_ix, i_var, i_call, i_bi, i_rng, i_zip, ss_nil, ss_cons, so_none, so_some, ea_nil, ea_cons, an_1, an_2, or_1, or_2, tan_1, tan_2, tor_1, tor_2, tal_0, tal_1, ep_0, ep_1, st_, st2_, tu_nil, tu_c, w_0, w_s, ca_ok, at1, at2_0, at2_1, at4_0, at4_1, at4_2, at4_3, bo_nil, bo_c, io_nil, io_c, is_int, is_intb, is_tup, g_0, g_s, p_d, p_own, p_ref, d_d, d_own, a_d, a_own, a_ref, c_lst, c_dct, pk_nil, pk_cons, sa_nil, sa_cons, ao_nil, ao_cons, b_add, b_sub, b_mul, b_div, b_mod, b_pow, b_cat, n_int, n_bl, cv, c_eq, c_ne, c_lt, c_le, c_gt, c_ge, c_in, c_notIn, eq_int, x_lst, x_tup, x_dct, tr_bl, tr_int, bi_len, bi_lent, bi_abs, bi_int, bi_all, bi_list, bi_listk, bi_listt, bi_tuple, bi_tuplet, io_lst, io_klst, io_tup, k_nil, k_cons, k_asg, k_asgS, k_asgN, k_setix, k_ex, k_ret, k_retN, k_iff, k_whl, k_for, k_brk, k_cont, lo_nil, lo_cons, li_some, as_nm, as_tup, as_0, as_s, f_rt, f_own, f_nx, R.bind_ok, R.of_some, Option.bind_some, Option.map_some, List.length_cons, List.length_nil, List.set_cons_zero, List.set_cons_succ, List.map_cons, List.map_nil, List.replicate, List.cons_append, List.nil_append, if_true, if_false, Bool.false_eq_true, Mt.d, c1, c2, e1, e2, e3, eq_int]
end
abbrev body : List Sx := [s1, s2, s3, s4, s5, s6, s7, s8]
structure EnvL (v0 : Option Val) (E : Env) : Prop where
  ex : ∃ w2 w3 w4 w5 w6 w7 w8 w9 w10 w11 w12 w13 w14, E = [v0, some (.ref 0), w2, w3, w4, w5, w6, w7, w8, w9, w10, w11, w12, w13, w14]
theorem turn_run {ns : List Int} {S : Store} (c : Cur ns S) (v0 : Option Val) (E : Env) (hE : EnvL v0 E) : ∃ E' S', semB (C 39) gs 100000 body E S = .ok (.nx, E') S' ∧ EnvL v0 E' ∧ Cur ns S' := by
  obtain ⟨w2, w3, w4, w5, w6, w7, w8, w9, w10, w11, w12, w13, w14, rfl⟩ := hE.ex
  obtain ⟨f, a, b, p, q, S1, S2, S3, e1, e2, e3, hf, ha, hb, hp, hq, ne, ne2, c3⟩ := t123 v0 w2 w3 w4 w5 w6 w7 w8 w9 w10 w11 w12 w13 w14 c
  have e4 := t4 (S := S3) v0 (some (.ref 0)) w2 w8 w9 w10 w11 w12 w13 w14 f a b p q hf ha hb hp hq
  have e5 := t5 (S := S3) v0 (some (.ref 0)) w2 (some (.d (img f (duM a b p q)).d)) w9 w10 w11 w12 w13 w14 f a b p q hf ha hb hp hq
  have pt_ : ∀ P : Int × Int, Bp 6 P → BP 40 (mk f (pl P)) ∧ NmP (mk f (pl P)) := fun P h => by
    obtain ⟨_, b, n⟩ := point_run 37 f (pl P) S3 (k := 6) (by omega) hf (pl_B h (by omega)) (pl_nm P)
    exact ⟨b.mono (by omega), n⟩
  obtain ⟨ba, na⟩ := pt_ a ha
  obtain ⟨bb, nb⟩ := pt_ b hb
  obtain ⟨bp, np⟩ := pt_ p hp
  obtain ⟨bq, nq⟩ := pt_ q hq
  have n1 : mk f (pl a) ≠ mk f (pl b) := fun e => ne (pl_inj (mk_inj hf (pl_nm a) (pl_nm b) e))
  have n2 : mk f (pl p) ≠ mk f (pl q) := fun e => ne2 (pl_inj (mk_inj hf (pl_nm p) (pl_nm q) e))
  have sp := sp_img hf (pl_nm a) (pl_nm b) (pl_nm p) (pl_nm q) (fun e => ne (pl_inj e)) (fun e => ne2 (pl_inj e)) (duM_sp ne ne2)
  have mB := img_B S3 hf (duM_B ha hb hp hq)
  have e6 := t6 (S := S3) v0 (some (.ref 0)) w2 (some (.d (fm f))) (some (.d (fr a))) (some (.d (fr b))) (some (.d (fr p))) (some (.d (fr q))) (some (.d (img f (duM a b p q)).d)) w13 w14 _ _ _ _ ba bb bp bq na nb np nq n1 n2 _ sp
  have e7 := t7 (S := S3) v0 (some (.ref 0)) w2 (some (.d (fm f))) (some (.d (fr a))) (some (.d (fr b))) (some (.d (fr p))) (some (.d (fr q))) w13 _ _ _ _ ba bb bp bq na nb np nq n1 n2 _ sp mB
  have e8 := t8 (S := S3) v0 (some (.ref 0)) w2 (some (.d (fm f))) (some (.d (fr a))) (some (.d (fr b))) (some (.d (fr p))) (some (.d (fr q))) w13 (some (.d (.lst [(img f (duM a b p q)).d, (img f (duM a b p q)).d, (img f (duM a b p q)).d, (img f (duM a b p q)).d]))) _ _ _ _ ba bb bp bq na nb np nq n1 n2 _ sp mB
  refine ⟨[v0, some (.ref 0), w2, some (.d (fm f)), some (.d (fr a)), some (.d (fr b)), some (.d (fr p)), some (.d (fr q)), some (.d (img f (duM a b p q)).d), some (.d (pt (mk f (pl a)))), some (.d (pt (mk f (pl b)))), some (.d (pt (mk f (pl p)))), some (.d (pt (mk f (pl q)))), w13, some (.d (.lst [(img f (duM a b p q)).d, (img f (duM a b p q)).d, (img f (duM a b p q)).d, (img f (duM a b p q)).d]))], S3, ?_, ⟨_, _, _, _, _, _, _, _, _, _, _, _, _, rfl⟩, c3⟩
  unfold body
  rw [k_step e1, k_step e2, k_step e3, k_step e4, k_step e5, k_step e6, k_step e7, k_step e8]
  rfl
theorem all_turns {ns : List Int} (v0 : Option Val) : ∀ (xs : List D) (E : Env) (S : Store), Cur ns S → EnvL v0 E → ∃ E' S', loop (fun x E S => (R.of (asgT (.nm 2) x E) S).bind fun E' S => semB (C 39) gs 100000 body E' S) xs E S = .ok (.nx, E') S' ∧ Cur ns S'
  | [], E, S, c, _ => ⟨E, S, rfl, c⟩
  | x :: xs, E, S, c, hE => by
    obtain ⟨w2, w3, w4, w5, w6, w7, w8, w9, w10, w11, w12, w13, w14, rfl⟩ := hE.ex
    obtain ⟨E1, S1, e1, h1, c1⟩ := turn_run c v0 [v0, some (.ref 0), some (.d x), w3, w4, w5, w6, w7, w8, w9, w10, w11, w12, w13, w14] ⟨_, _, _, _, _, _, _, _, _, _, _, _, _, rfl⟩
    obtain ⟨E2, S2, e2, c2⟩ := all_turns v0 xs E1 S1 c1 h1
    refine ⟨E2, S2, ?_, c2⟩
    rw [lo_cons]
    show (semB (C 39) gs 100000 body [v0, some (.ref 0), some (.d x), w3, w4, w5, w6, w7, w8, w9, w10, w11, w12, w13, w14] S).bind _ = _
    rw [e1, R.bind_ok]
    exact e2
theorem law (ns : List Int) (h : ns.length ≤ 63) (hb : ∀ z ∈ ns, PySem.Builtin.Int.intBits z ≤ 1048576) : ∃ S', callF (rows.map (·.fd)) gs 100000 40 39 [.d (kInts ns)] [] = .ok (.d (.bl true)) S' := by
  obtain ⟨s, e1, s0, s1⟩ := start_run 38 ns
  have e1 : C 39 25 [.d (kInts ns)] [] = .ok (.own (cell ns 0 0 s)) [] := e1
  have c : Cur ns [cell ns 0 0 s] := ⟨0, 0, s, rfl, by omega, by omega, s0, s1⟩
  obtain ⟨E2, S2, e2, c2⟩ := all_turns (some (.d (kInts ns))) (upTo 0 8) [some (.d (kInts ns)), some (.ref 0), none, none, none, none, none, none, none, none, none, none, none, none, none] [cell ns 0 0 s] c ⟨_, _, _, _, _, _, _, _, _, _, _, _, _, rfl⟩
  refine ⟨S2.take 0, ?_⟩
  show C (39 + 1) 39 _ _ = _
  rw [call_at (fd := ⟨1, 15, b39⟩) rfl, r_run _ _ _ _ _ _ rfl]
  show fin 0 (semB (C 39) gs 100000 [.asgN 1 (.call 25 [(.var 0)]), .for (.nm 2) (.rng [(.kI 8)]) body, .ret (.kB true)] [some (.d (kInts ns)), none, none, none, none, none, none, none, none, none, none, none, none, none, none] []) = _
  have f1 : semS (C 39) gs 100000 (.asgN 1 (.call 25 [(.var 0)])) [some (.d (kInts ns)), none, none, none, none, none, none, none, none, none, none, none, none, none, none] [] = .ok (.nx, [some (.d (kInts ns)), some (.ref 0), none, none, none, none, none, none, none, none, none, none, none, none, none]) [cell ns 0 0 s] := by
    simp [e_kN, e_kB, e_kI, e_kS, e_var, e_glb, e_fnv, e_typ, e_neg, e_bin, e_cmp, e_chn, e_and, e_or, e_not, e_ife, e_tup, e_lst, e_ix, e_slc, e_call, e_bi, e_mt, e_lc, e_dc, t_and, t_or, t_not, t_var, t_cmp, t_chn, t_call, t_bi, t_ix, i_var, i_call, i_bi, i_rng, i_zip, ss_nil, ss_cons, so_none, so_some, ea_nil, ea_cons, an_1, an_2, or_1, or_2, tan_1, tan_2, tor_1, tor_2, tal_0, tal_1, ep_0, ep_1, st_, st2_, tu_nil, tu_c, w_0, w_s, ca_ok, at1, at2_0, at2_1, at4_0, at4_1, at4_2, at4_3, bo_nil, bo_c, io_nil, io_c, is_int, is_intb, is_tup, g_0, g_s, p_d, p_own, p_ref, d_d, d_own, a_d, a_own, a_ref, c_lst, c_dct, pk_nil, pk_cons, sa_nil, sa_cons, ao_nil, ao_cons, b_add, b_sub, b_mul, b_div, b_mod, b_pow, b_cat, n_int, n_bl, cv, c_eq, c_ne, c_lt, c_le, c_gt, c_ge, c_in, c_notIn, eq_int, x_lst, x_tup, x_dct, tr_bl, tr_int, bi_len, bi_lent, bi_abs, bi_int, bi_all, bi_list, bi_listk, bi_listt, bi_tuple, bi_tuplet, io_lst, io_klst, io_tup, k_nil, k_cons, k_asg, k_asgS, k_asgN, k_setix, k_ex, k_ret, k_retN, k_iff, k_whl, k_for, k_brk, k_cont, lo_nil, lo_cons, li_some, as_nm, as_tup, as_0, as_s, f_rt, f_own, f_nx, R.bind_ok, R.of_some, Option.bind_some, Option.map_some, List.length_cons, List.length_nil, List.set_cons_zero, List.set_cons_succ, List.map_cons, List.map_nil, List.replicate, List.cons_append, List.nil_append, if_true, if_false, Bool.false_eq_true, e1]
  have f2 : semS (C 39) gs 100000 (.for (.nm 2) (.rng [(.kI 8)]) body) [some (.d (kInts ns)), some (.ref 0), none, none, none, none, none, none, none, none, none, none, none, none, none] [cell ns 0 0 s] = .ok (.nx, E2) S2 := e2
  rw [k_step f1, k_step f2]
  simp only [e_kN, e_kB, e_kI, e_kS, e_var, e_glb, e_fnv, e_typ, e_neg, e_bin, e_cmp, e_chn, e_and, e_or, e_not, e_ife, e_tup, e_lst, e_ix, e_slc, e_call, e_bi, e_mt, e_lc, e_dc, t_and, t_or, t_not, t_var, t_cmp, t_chn, t_call, t_bi, t_ix, i_var, i_call, i_bi, i_rng, i_zip, ss_nil, ss_cons, so_none, so_some, ea_nil, ea_cons, an_1, an_2, or_1, or_2, tan_1, tan_2, tor_1, tor_2, tal_0, tal_1, ep_0, ep_1, st_, st2_, tu_nil, tu_c, w_0, w_s, ca_ok, at1, at2_0, at2_1, at4_0, at4_1, at4_2, at4_3, bo_nil, bo_c, io_nil, io_c, is_int, is_intb, is_tup, g_0, g_s, p_d, p_own, p_ref, d_d, d_own, a_d, a_own, a_ref, c_lst, c_dct, pk_nil, pk_cons, sa_nil, sa_cons, ao_nil, ao_cons, b_add, b_sub, b_mul, b_div, b_mod, b_pow, b_cat, n_int, n_bl, cv, c_eq, c_ne, c_lt, c_le, c_gt, c_ge, c_in, c_notIn, eq_int, x_lst, x_tup, x_dct, tr_bl, tr_int, bi_len, bi_lent, bi_abs, bi_int, bi_all, bi_list, bi_listk, bi_listt, bi_tuple, bi_tuplet, io_lst, io_klst, io_tup, k_nil, k_cons, k_asg, k_asgS, k_asgN, k_setix, k_ex, k_ret, k_retN, k_iff, k_whl, k_for, k_brk, k_cont, lo_nil, lo_cons, li_some, as_nm, as_tup, as_0, as_s, f_rt, f_own, f_nx, R.bind_ok, R.of_some, Option.bind_some, Option.map_some, List.length_cons, List.length_nil, List.set_cons_zero, List.set_cons_succ, List.map_cons, List.map_nil, List.replicate, List.cons_append, List.nil_append, if_true, if_false, Bool.false_eq_true]
end K03

open PySem PySem.W PyProof.Rows
set_option maxHeartbeats 0 in
theorem PySem.Challenge.cw_oneplainroll_k03_segments_that_meet_holds : PySem.Challenge.rw_oneplainroll_k03_segments_that_meet.Holds := by
  w_on; o_law; k_head; (case hw => w_witness2)
  k_fill
  refine Mi.walk_law (l := PySem.Challenge.rw_oneplainroll_k03_segments_that_meet) (n := 63) (k := 40) (x := "script") (T := K03.tb) (rows := K03.rows) (Gs := K03.gs) (Wn := 100000) (fi := 39) rfl (by decide) rfl ⟨rfl, by decide, by decide⟩ rfl (fun w h Y => PySem.W.kIn_of Y) rfl K03.rows_ok ⟨_, rfl, rfl, rfl⟩ ?F K03.law
  case F =>
    intro w
    refine' K03.all_mk ?a0 ?l0 ?c0 ?k0 ?a1 ?l1 ?c1 ?k1 ?a2 ?l2 ?c2 ?k2 ?a3 ?l3 ?c3 ?k3 ?a4 ?l4 ?c4 ?k4 ?a5 ?l5 ?c5 ?k5 ?a6 ?l6 ?c6 ?k6 ?a7 ?l7 ?c7 ?k7 ?a8 ?l8 ?c8 ?k8 ?a9 ?l9 ?c9 ?k9 ?a10 ?l10 ?c10 ?k10 ?a11 ?l11 ?c11 ?k11 ?a12 ?l12 ?c12 ?k12 ?a13 ?l13 ?c13 ?k13 ?a14 ?l14 ?c14 ?k14 ?a15 ?l15 ?c15 ?k15 ?a16 ?l16 ?c16 ?k16 ?a17 ?l17 ?c17 ?k17 ?a18 ?l18 ?c18 ?k18 ?a19 ?l19 ?c19 ?k19 ?a20 ?l20 ?c20 ?k20 ?a21 ?l21 ?c21 ?k21 ?a22 ?l22 ?c22 ?k22 ?a23 ?l23 ?c23 ?k23 ?a24 ?l24 ?c24 ?k24 ?a25 ?l25 ?c25 ?k25 ?a26 ?l26 ?c26 ?k26 ?a27 ?l27 ?c27 ?k27 ?a28 ?l28 ?c28 ?k28 ?a29 ?l29 ?c29 ?k29 ?a30 ?l30 ?c30 ?k30 ?a31 ?l31 ?c31 ?k31 ?a32 ?l32 ?c32 ?k32 ?a33 ?l33 ?c33 ?k33 ?a34 ?l34 ?c34 ?k34 ?a35 ?l35 ?c35 ?k35 ?a36 ?l36 ?c36 ?k36 ?a37 ?l37 ?c37 ?k37 ?a38 ?l38 ?c38 ?k38 ?a39 ?l39 ?c39 ?k39 ?z0 ?z1 ?z2 ?z3 ?z4 ?z5 ?z6 ?z7 ?z8 ?z9 ?z10 ?z11
    (case a0 => k_is)
    (case l0 => k_is)
    (case c0 => k_is)
    (case k0 => k_is)
    (case a1 => k_is)
    (case l1 => k_is)
    (case c1 => k_is)
    (case k1 => k_is)
    (case a2 => k_is)
    (case l2 => k_is)
    (case c2 => k_is)
    (case k2 => k_is)
    (case a3 => k_is)
    (case l3 => k_is)
    (case c3 => k_is)
    (case k3 => k_is)
    (case a4 => k_is)
    (case l4 => k_is)
    (case c4 => k_is)
    (case k4 => k_is)
    (case a5 => k_is)
    (case l5 => k_is)
    (case c5 => k_is)
    (case k5 => k_is)
    (case a6 => k_is)
    (case l6 => k_is)
    (case c6 => k_is)
    (case k6 => k_is)
    (case a7 => k_is)
    (case l7 => k_is)
    (case c7 => k_is)
    (case k7 => k_is)
    (case a8 => k_is)
    (case l8 => k_is)
    (case c8 => k_is)
    (case k8 => k_is)
    (case a9 => k_is)
    (case l9 => k_is)
    (case c9 => k_is)
    (case k9 => k_is)
    (case a10 => k_is)
    (case l10 => k_is)
    (case c10 => k_is)
    (case k10 => k_is)
    (case a11 => k_is)
    (case l11 => k_is)
    (case c11 => k_is)
    (case k11 => k_is)
    (case a12 => k_is)
    (case l12 => k_is)
    (case c12 => k_is)
    (case k12 => k_is)
    (case a13 => k_is)
    (case l13 => k_is)
    (case c13 => k_is)
    (case k13 => k_is)
    (case a14 => k_is)
    (case l14 => k_is)
    (case c14 => k_is)
    (case k14 => k_is)
    (case a15 => k_is)
    (case l15 => k_is)
    (case c15 => k_is)
    (case k15 => k_is)
    (case a16 => k_is)
    (case l16 => k_is)
    (case c16 => k_is)
    (case k16 => k_is)
    (case a17 => k_is)
    (case l17 => k_is)
    (case c17 => k_is)
    (case k17 => k_is)
    (case a18 => k_is)
    (case l18 => k_is)
    (case c18 => k_is)
    (case k18 => k_is)
    (case a19 => k_is)
    (case l19 => k_is)
    (case c19 => k_is)
    (case k19 => k_is)
    (case a20 => k_is)
    (case l20 => k_is)
    (case c20 => k_is)
    (case k20 => k_is)
    (case a21 => k_is)
    (case l21 => k_is)
    (case c21 => k_is)
    (case k21 => k_is)
    (case a22 => k_is)
    (case l22 => k_is)
    (case c22 => k_is)
    (case k22 => k_is)
    (case a23 => k_is)
    (case l23 => k_is)
    (case c23 => k_is)
    (case k23 => k_is)
    (case a24 => k_is)
    (case l24 => k_is)
    (case c24 => k_is)
    (case k24 => k_is)
    (case a25 => k_is)
    (case l25 => k_is)
    (case c25 => k_is)
    (case k25 => k_is)
    (case a26 => k_is)
    (case l26 => k_is)
    (case c26 => k_is)
    (case k26 => k_is)
    (case a27 => k_is)
    (case l27 => k_is)
    (case c27 => k_is)
    (case k27 => k_is)
    (case a28 => k_is)
    (case l28 => k_is)
    (case c28 => k_is)
    (case k28 => k_is)
    (case a29 => k_is)
    (case l29 => k_is)
    (case c29 => k_is)
    (case k29 => k_is)
    (case a30 => k_is)
    (case l30 => k_is)
    (case c30 => k_is)
    (case k30 => k_is)
    (case a31 => k_is)
    (case l31 => k_is)
    (case c31 => k_is)
    (case k31 => k_is)
    (case a32 => k_is)
    (case l32 => k_is)
    (case c32 => k_is)
    (case k32 => k_is)
    (case a33 => k_is)
    (case l33 => k_is)
    (case c33 => k_is)
    (case k33 => k_is)
    (case a34 => k_is)
    (case l34 => k_is)
    (case c34 => k_is)
    (case k34 => k_is)
    (case a35 => k_is)
    (case l35 => k_is)
    (case c35 => k_is)
    (case k35 => k_is)
    (case a36 => k_is)
    (case l36 => k_is)
    (case c36 => k_is)
    (case k36 => k_is)
    (case a37 => k_is)
    (case l37 => k_is)
    (case c37 => k_is)
    (case k37 => k_is)
    (case a38 => k_is)
    (case l38 => k_is)
    (case c38 => k_is)
    (case k38 => k_is)
    (case a39 => k_is)
    (case l39 => k_is)
    (case c39 => k_is)
    (case k39 => k_is)
    (case z0 => k_is)
    (case z1 => k_is)
    (case z2 => k_is)
    (case z3 => k_is)
    (case z4 => k_is)
    (case z5 => k_is)
    (case z6 => k_is)
    (case z7 => k_is)
    (case z8 => k_is)
    (case z9 => k_is)
    (case z10 => k_is)
    (case z11 => k_is)
