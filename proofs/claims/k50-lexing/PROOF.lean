import PyProof.Rows.All
import Wide.All
import OpenK.AllK
import Wide.FinOn
import HandS.ForMost
import KE.RegKSuper
import HandS.Base
import HandS.Call
import HandS.List
import HandS.Dict
import HandS.Wide
import KE.DataMinMax
import HandS.Text
import HandS.Words
import HandS.Exc
import HandS.ExcOwn
import HandS.TryMany
import HandS.Flow
import PyProof.StrOps2
import HandS.TupAny
import HandS.IsInst
import HandS.SortInts
import HandS.More
import HandS.Deep
import PyProof.ReprRoads
import PyProof.P3In
import HandS.RaiseMore
import HandS.Comp
import HandS.DictComp
import HandS.Iter
import HandS.TryOnly
import HandS.Style
import HandS.Zip
import KE.GoesEnum
import KE.GoesZip
import KE.GoesMore
import KE.KExcSuper
import KE.KSuper
import HandS.HotCalls
import KE.KExcIs
import KE.DataFind
import HandS.SetFor
import HandS.Ends
import HandS.EndBits
import HandS.Codes
import KE.LtData
import PyProof.ReprBulk
import PyProof.P3Eq
import PySem.Challenge.RW_oneplainroll_k50_lexing
set_option Elab.async false
set_option linter.all false
set_option autoImplicit false
set_option maxRecDepth 100000
/-! the small language: data, expressions, statements, and how they run -/
namespace Mi
open PySem

/-- data without a heap -/
inductive D where
  | non
  | bl (b : Bool)
  | int (i : Int)
  | str (s : Str)
  | lst (xs : List D)
  | klst (xs : List D)
  | tup (xs : List D)
  | dct (ks : List L2.Key) (vs : List D)
  | fn (i : Nat)
  | ty (n : String)
  | cls (i : Nat)
  deriving Inhabited

/-- a thing that changes: a list, a dict; gone: no longer looked at -/
inductive Cell where
  | lst (xs : List D)
  | dct (ks : List L2.Key) (vs : List D)
  | gone
abbrev Store := List Cell
/-- what an expression gives: data, a new object that nothing else holds, a cell, an exception that was caught -/
inductive Val where
  | d (x : D)
  | own (c : Cell)
  | ref (l : Nat)
  | err (c : Nat) (a : D)
abbrev Env := List (Option Val)

inductive R (α : Type) where
  | ok (a : α) (S : Store)
  | ex (c : Nat) (a : D) (S : Store)
  | no
def R.bind {α β : Type} : R α → (α → Store → R β) → R β
  | .ok a S, f => f a S
  | .ex c a S, _ => .ex c a S
  | .no, _ => .no
@[simp] theorem R.bind_ok {α β : Type} (a : α) (S : Store) (f : α → Store → R β) : (R.ok a S).bind f = f a S := rfl
@[simp] theorem R.bind_ex {α β : Type} (c : Nat) (a : D) (S : Store) (f : α → Store → R β) : (R.ex c a S : R α).bind f = .ex c a S := rfl
@[simp] theorem R.bind_no {α β : Type} (f : α → Store → R β) : (R.no : R α).bind f = .no := rfl
/-- what a comprehension's block may not let out -/
def R.calm {α : Type} : R α → R α
  | .ok a S => .ok a S
  | _ => .no
@[simp] theorem R.calm_ok {α : Type} (a : α) (S : Store) : (R.ok a S).calm = .ok a S := rfl
def R.of {α : Type} (o : Option α) (S : Store) : R α := match o with
  | some a => .ok a S
  | none => .no
@[simp] theorem R.of_some {α : Type} (a : α) (S : Store) : R.of (some a) S = .ok a S := rfl
@[simp] theorem R.of_none {α : Type} (S : Store) : (R.of none S : R α) = .no := rfl

def Cell.dat : Cell → Option D
  | .lst xs => some (.lst xs)
  | .dct ks vs => some (.dct ks vs)
  | .gone => none
/-- as data that is handed on -/
def Val.dat : Val → Option D
  | .d x => some x
  | .own c => c.dat
  | _ => none
/-- as data that is read at once -/
def Val.peek (S : Store) : Val → Option D
  | .d x => some x
  | .own c => c.dat
  | .ref l => (S[l]?).bind Cell.dat
  | _ => none
/-- as an argument, or in a slot -/
def Val.arg : Val → Option Val
  | .d x => some (.d x)
  | .own c => c.dat.map .d
  | .ref l => some (.ref l)
  | .err c a => some (.err c a)
def peeks (S : Store) : List Val → Option (List D)
  | [] => some []
  | v :: r => (v.peek S).bind fun x => (peeks S r).map (x :: ·)

/-- targets -/
inductive Tg where
  | nm (i : Nat)
  | seq (ts : List Tg)
mutual
def Tg.slots : Tg → List Nat
  | .nm i => [i]
  | .seq ts => slotsL ts
def slotsL : List Tg → List Nat
  | [] => []
  | t :: r => t.slots ++ slotsL r
end
/-- built-in functions and types, called -/
inductive BI where
  | len | abs | isinst | all | any | int | list | tuple | sorted | repr | min | max | sum | bool | str
  deriving DecidableEq
/-- those that go through nothing turn by turn -/
def BI.cool : BI → Bool
  | .len | .abs | .isinst | .int | .bool | .str | .repr => true
  | _ => false
/-- methods -/
inductive MT where
  | append | get2 | count | index | extend | items | values | keys | pop0
  deriving DecidableEq

/-- methods that change nothing -/
inductive PM where
  | lcount | lindex
  deriving DecidableEq

inductive Ex where
  | kN
  | kB (b : Bool)
  | kI (i : Int)
  | kS (s : Str)
  | var (i : Nat)
  | glb (g : Nat)
  | fnv (f : Nat)
  | typ (n : String)
  | clsv (c : Nat)
  | neg (a : Ex)
  | bin (op : Operator) (a b : Ex)
  | cmp (op : CmpOp) (a b : Ex)
  | chn (o1 o2 : CmpOp) (a b c : Ex)
  | andE (es : List Ex)
  | orE (es : List Ex)
  | notE (a : Ex)
  | ife (t a b : Ex)
  | tup (es : List Ex)
  | lst (es : List Ex)
  | ix (a i : Ex)
  | slc (a : Ex) (lo hi : Option Ex)
  | call (f : Nat) (es : List Ex)
  | bi (b : BI) (es : List Ex)
  | rng (es : List Ex)
  | zip (es : List Ex)
  | enum (es : List Ex)
  | mt (m : MT) (a : Ex) (es : List Ex)
  | lc (e : Ex) (tg : Tg) (it : Ex) (ifs : List Ex) (vs : List Nat)
  | dc (k v : Ex) (tg : Tg) (it : Ex) (ifs : List Ex) (vs : List Nat)
  | isE (i c : Nat) (subs : List Nat)
  | isV (i : Nat)
  | attr (i : Nat) (f : Str) (cs : List Nat)
  | dyn (i : Nat) (es : List Ex)
  | pm (m : PM) (a : Ex) (es : List Ex)

inductive Sx where
  | asg (i : Nat) (e : Ex)
  | asgS (ts : List Tg) (e : Ex)
  | asgN (i : Nat) (e : Ex)
  | setix (o i e : Ex)
  | ex (e : Ex)
  | ret (e : Ex)
  | retN
  | iff (t : Ex) (a b : List Sx)
  | whl (t : Ex) (b : List Sx)
  | for (tg : Tg) (it : Ex) (b : List Sx)
  | brk
  | cont
  | pass
  | raise (c : Nat) (es : List Ex)
  | tryR (b : List Sx) (c : Nat) (subs : List Nat) (d : D)
  | tryF (b : List Sx) (c : Nat) (subs : List Nat) (i f : Nat)
  | frz (i : Nat)
  /-- a, b = e1, e2: a list of its own, and data -/
  | asgP (i : Nat) (e1 : Ex) (j : Nat) (e2 : Ex)
  /-- x += e, of whole numbers -/
  | aug (i : Nat) (op : Operator) (e : Ex)
  /-- o[i], p[j] = e -/
  | asgX (ts : List (Ex × Ex)) (e : Ex)

/-! ### values -/
mutual
def D.py : D → Option PyData
  | .non => some .none
  | .bl b => some (.bool b)
  | .int i => some (.int i)
  | .str s => some (.str s)
  | .lst xs => (pys xs).map .list
  | .klst _ => none
  | .tup xs => (pys xs).map .tuple
  | .dct _ _ => none
  | .fn _ => none
  | .ty _ => none
  | .cls _ => none
def pys : List D → Option (List PyData)
  | [] => some []
  | x :: r => x.py.bind fun y => (pys r).map (y :: ·)
end
/-- == of two texts -/
def strsD : D → D → Option Bool
  | .str x, .str y => some (decide (x = y))
  | _, _ => none
/-- == of data -/
def eqD (a b : D) : Option Bool := match strsD a b with
  | some k => some k
  | none => a.py.bind fun x => b.py.bind fun y => if SeqAt.shaped x && SeqAt.shaped y then some (PyData.eqv x y) else none
/-- a sign in a text -/
def inS (x : Str) (w : Str) : Option Bool := match x.cps.toList with
  | [c] => some (decide (c ∈ w.cps.toList))
  | _ => none
/-- x in xs -/
def inD (x : D) (c : D) : Option Bool := x.py.bind fun p => match c with
  | .lst xs => (pys xs).bind fun ps => if SeqAt.shaped p && SeqAt.shaped (.list ps) then some (ps.any fun z => PyData.eqv z p) else none
  | .tup xs => (pys xs).bind fun ps => if SeqAt.shaped p && SeqAt.shaped (.tuple ps) then some (ps.any fun z => PyData.eqv z p) else none
  | _ => none

def notNoneP : PyData → Bool
  | .none => false
  | _ => true
/-- order of data that are alike -/
def ordD (f : PyData → PyData → Bool) (a b : D) : Option Bool := a.py.bind fun x => b.py.bind fun y => if W.alike x y && notNoneP x && SeqAt.shaped x && SeqAt.shaped y then some (f x y) else none
/-- the first that is ahead of all -/
def bestI (f : PyData → PyData → Bool) (ps : List PyData) : Nat := argBest (fun i j => f (ps.getD i .none) (ps.getD j .none)) (ps.length - 1)
def bestD (f : PyData → PyData → Bool) (xs : List D) : Option Val := (pys xs).bind fun ps =>
  if SeqAt.shaped (.list ps) && (ps.all fun x => ps.all fun y => W.alike x y) && ps.all notNoneP && !ps.isEmpty then (xs[bestI f ps]?).map .d else none

def keyD : L2.Key → D
  | .inl i => .int i
  | .inr s => .str s
def asKey : D → Option L2.Key
  | .int i => some (.inl i)
  | .str s => some (.inr s)
  | _ => none
def lookD (k : L2.Key) : List L2.Key → List D → Option D
  | k' :: ks, v :: vs => if k' = k then some v else lookD k ks vs
  | _, _ => none
def putD (k : L2.Key) (x : D) (ks : List L2.Key) (vs : List D) : List L2.Key × List D :=
  if (ks.any fun q => decide (q = k)) = true then (ks, (ks.zip vs).map fun p => if p.1 = k then x else p.2) else (ks ++ [k], vs ++ [x])

def truD : D → Option Bool
  | .non => some false
  | .bl b => some b
  | .int i => some (i != 0)
  | .str s => if s.length ≤ sizeLine then some (s.length != 0) else none
  | .lst xs => some (!xs.isEmpty)
  | .tup xs => some (!xs.isEmpty)
  | _ => none

def cmulB (i j : Int) : Bool := decide (i.natAbs.log2 + j.natAbs.log2 < 1000000)
def cdivB (j : Int) : Bool := decide (0 < j) && decide (j.natAbs.log2 < 9000)
def cpowB (i j : Int) : Bool := decide (0 ≤ j) && decide (j ≤ 1000000) && decide (i.natAbs < 2 ^ 64)
def binD : Operator → D → D → Option Val
  | .Add, .int i, .int j => some (.d (.int (i + j)))
  | .Add, .str i, .str j => if i.length + j.length ≤ sizeLine then some (.d (.str (i ++ j))) else none
  | .Add, .lst xs, .lst ys => if xs.length + ys.length ≤ sizeLine then some (.own (.lst (xs ++ ys))) else none
  | .Add, .tup xs, .tup ys => if xs.length + ys.length ≤ sizeLine then some (.d (.tup (xs ++ ys))) else none
  | .Sub, .int i, .int j => some (.d (.int (i - j)))
  | .Mult, .int i, .int j => if cmulB i j then some (.d (.int (i * j))) else none
  | .Mult, .lst xs, .int j => if decide (-(2 ^ 63) ≤ j) && decide (j < 2 ^ 63) && decide (xs.length * j.toNat ≤ sizeLine) then some (.own (.lst (List.replicate j.toNat xs).flatten)) else none
  | .Mult, .str x, .int j => if decide (2 ≤ j) && decide (j < 2 ^ 31) && decide (1 ≤ x.length) && decide (x.length * j.toNat ≤ sizeLine) then some (.d (.str ⟨(List.replicate j.toNat x.cps.toList).flatten.toArray⟩)) else none
  | .FloorDiv, .int i, .int j => if cdivB j then some (.d (.int (i / j))) else none
  | .Mod, .int i, .int j => if 0 < j then some (.d (.int (i % j))) else none
  | .Pow, .int i, .int j => if cpowB i j then some (.d (.int (i ^ j.toNat))) else none
  | _, _, _ => none
def isNon : D → Bool
  | .non => true
  | _ => false
def cmpD : CmpOp → D → D → Option Bool
  | .Eq, a, b => eqD a b
  | .NotEq, a, b => (eqD a b).map (!·)
  | .Lt, .int i, .int j => some (decide (i < j))
  | .LtE, .int i, .int j => some (decide (i ≤ j))
  | .Gt, .int i, .int j => some (decide (j < i))
  | .GtE, .int i, .int j => some (decide (j ≤ i))
  | .Is, a, .non => some (isNon a)
  | .IsNot, a, .non => some (!isNon a)
  | .Lt, a, b => ordD W.dataLt a b
  | .LtE, a, b => ordD (fun x y => !W.dataLt y x) a b
  | .Gt, a, b => ordD (fun x y => W.dataLt y x) a b
  | .GtE, a, b => ordD (fun x y => !W.dataLt x y) a b
  | .In, a, .lst xs => inD a (.lst xs)
  | .In, a, .tup xs => inD a (.tup xs)
  | .NotIn, a, .lst xs => (inD a (.lst xs)).map (!·)
  | .NotIn, a, .tup xs => (inD a (.tup xs)).map (!·)
  | .In, .str x, .str w => inS x w
  | .NotIn, .str x, .str w => (inS x w).map (!·)
  | _, _, _ => none
def ixD : D → D → Option D
  | .lst xs, .int i => L2.atI xs i
  | .klst xs, .int i => L2.atI xs i
  | .tup xs, .int i => L2.atI xs i
  | .str s, .int i => if s.length ≤ sizeLine then (L2.atI s.cps.toList i).map fun c => .str ⟨#[c]⟩ else none
  | .dct ks vs, k => (asKey k).bind fun q => lookD q ks vs
  | _, _ => none
def cutL {α : Type} (xs : List α) (lo hi : Option Int) : List α := (xs.drop (HT.sIx xs.length 0 lo)).take (HT.sIx xs.length xs.length hi - HT.sIx xs.length 0 lo)
def slcD (a : D) (lo hi : Option Int) : Option Val := match a with
  | .lst xs => some (.own (.lst (cutL xs lo hi)))
  | .tup xs => some (.d (.tup (cutL xs lo hi)))
  | .klst xs => some (.own (.lst (cutL xs lo hi)))
  | .str s => if s.length ≤ sizeLine then some (.d (.str (L2.cutS s lo hi))) else none
  | _ => none
/-- the types of a value -/
def tyOf : D → Option String
  | .non => some "NoneType"
  | .bl _ => some "bool"
  | .int _ => some "int"
  | .str _ => some "str"
  | .lst _ => some "list"
  | .tup _ => some "tuple"
  | .dct _ _ => some "dict"
  | _ => none
def asked : List String := ["int", "bool", "str", "tuple", "list", "dict"]
def isiD (x : D) (n : String) : Option Bool := if asked.contains n then (tyOf x).map fun t => t == n || (t == "bool" && n == "int") else none
def boolsOf : List D → Option (List Bool)
  | [] => some []
  | .bl b :: r => (boolsOf r).map (b :: ·)
  | _ :: _ => none
def intsOf : List D → Option (List Int)
  | [] => some []
  | .int b :: r => (intsOf r).map (b :: ·)
  | _ :: _ => none
/-- insertion sort -/
def insI (x : Int) : List Int → List Int
  | [] => [x]
  | y :: r => if x ≤ y then x :: y :: r else y :: insI x r
def sortI : List Int → List Int
  | [] => []
  | x :: r => insI x (sortI r)
def keyInts : List L2.Key → Option (List Int)
  | [] => some []
  | .inl i :: r => (keyInts r).map (i :: ·)
  | _ :: _ => none
def biD : BI → List D → Option Val
  | .len, [.lst xs] => some (.d (.int xs.length))
  | .len, [.klst xs] => some (.d (.int xs.length))
  | .len, [.tup xs] => some (.d (.int xs.length))
  | .len, [.str s] => if s.length ≤ sizeLine then some (.d (.int s.length)) else none
  | .abs, [.int i] => some (.d (.int (if i < 0 then -i else i)))
  | .isinst, [x, .ty n] => (isiD x n).map fun b => .d (.bl b)
  | .all, [.lst xs] => (boolsOf xs).map fun bs => .d (.bl (bs.all id))
  | .any, [.lst xs] => (boolsOf xs).map fun bs => .d (.bl (bs.any id))
  | .sum, [.lst xs] => (intsOf xs).map fun ns => .d (.int ns.sum)
  | .max, [.int i, .int j] => some (.d (.int (if j > i then j else i)))
  | .min, [.int i, .int j] => some (.d (.int (if j < i then j else i)))
  | .max, [.lst xs] => bestD (fun x y => W.dataLt y x) xs
  | .min, [.lst xs] => bestD W.dataLt xs
  | .int, [.int i] => some (.d (.int i))
  | .int, [.bl k] => some (.d (.int (if k then 1 else 0)))
  | .int, [.str s] => if s.length ≤ 640 then (PySem.intText? s).map fun n => .d (.int n) else none
  | .str, [.int i] => if i.natAbs.log2 < 1920 then some (.d (.str (toString i))) else none
  | .str, [.str s] => some (.d (.str s))
  | .list, [.lst xs] => some (.own (.lst xs))
  | .list, [.klst xs] => some (.own (.lst xs))
  | .list, [.tup xs] => some (.own (.lst xs))
  | .tuple, [.lst xs] => some (.d (.tup xs))
  | .tuple, [.tup xs] => some (.d (.tup xs))
  | .sorted, [.lst xs] => (intsOf xs).map fun ns => .own (.lst ((sortI ns).map .int))
  | .sorted, [.dct ks _] => (keyInts ks).bind fun ns => if ns.length < 64 then some (.own (.lst ((sortI ns).map .int))) else none
  | .repr, [x] => x.py.bind fun p => if p.showable && decide (p.depth ≤ 40) && decide (p.shown.length ≤ sizeLine) then some (.d (.str p.shown)) else none
  | _, _ => none

/-- what a method gives that changes nothing -/
def pmD : PM → D → List D → Option Val
  | .lcount, .lst xs, [y] => (pys xs).bind fun ps => y.py.bind fun p => if SeqAt.shaped (.list ps) && SeqAt.shaped p then some (.d (.int ((ps.countP fun z => PyData.eqv z p : Nat) : Int))) else none
  | .lindex, .lst xs, [y] => (pys xs).bind fun ps => y.py.bind fun p => if SeqAt.shaped (.list ps) && SeqAt.shaped p then (ps.findIdx? fun z => PyData.eqv z p).map fun j => .d (.int (j : Nat)) else none
  | _, _, _ => none

/-- what may receive such a method -/
def recvP : PM → D → Option D
  | .lcount, .lst xs => some (.lst xs)
  | .lindex, .lst xs => some (.lst xs)
  | _, _ => none

/-! ### slots -/
def getV (E : Env) (i : Nat) : Option Val := (E[i]?).join
def errAt (E : Env) (i : Nat) : Option (Nat × D) := match (E[i]?).join with
  | some (.err c a) => some (c, a)
  | _ => none
def wipeE (E : Env) : List Nat → Env
  | [] => E
  | v :: vs => (wipeE E vs).set v none
mutual
def asgT : Tg → D → Env → Option Env
  | .nm i, x, E => if i < E.length then some (E.set i (some (.d x))) else none
  | .seq ts, .tup xs, E => asgTs ts xs E
  | .seq ts, .lst xs, E => asgTs ts xs E
  | .seq _, _, _ => none
def asgTs : List Tg → List D → Env → Option Env
  | [], [], E => some E
  | t :: ts, x :: xs, E => (asgT t x E).bind fun E' => asgTs ts xs E'
  | _, _, _ => none
end
/-- what may receive a method -/
def recv : MT → Val → Store → Option Unit
  | .append, .ref l, S => match S[l]? with
    | some (.lst _) => some ()
    | _ => none
  | _, _, _ => none
/-- what a method does -/
def mtV : MT → Val → List D → Store → R Val
  | .append, .ref l, [x], S => match S[l]? with
    | some (.lst xs) => if xs.length < sizeLine then .ok (.d .non) (S.set l (.lst (xs ++ [x]))) else .no
    | _ => .no
  | _, _, _, _ => .no
def itemsOf : D → Option (List D)
  | .lst xs => some xs
  | .klst xs => some xs
  | .tup xs => some xs
  | _ => none
def upTo (lo : Int) : Nat → List D
  | 0 => []
  | n + 1 => .int lo :: upTo (lo + 1) n
def rngD : List D → Option (List D)
  | [.int j] => if decide (-(2 ^ 62) ≤ j) && decide (j < 2 ^ 62) && decide (j ≤ sizeLine) then some (upTo 0 j.toNat) else none
  | [.int i, .int j] => if decide (-(2 ^ 62) ≤ i) && decide (i < 2 ^ 62) && decide (-(2 ^ 62) ≤ j) && decide (j < 2 ^ 62) && decide (j - i ≤ sizeLine) then some (upTo i (j - i).toNat) else none
  | _ => none
def zipD : List D → List D → List D
  | x :: xs, y :: ys => .tup [x, y] :: zipD xs ys
  | _, _ => []
def zipA : List D → Option (List D)
  | [x, y] => (itemsOf x).bind fun xs => (itemsOf y).map fun ys => zipD xs ys
  | _ => none
def enumD (i : Int) : List D → List D
  | [] => []
  | x :: xs => .tup [.int i, x] :: enumD (i + 1) xs
def enumA : List D → Option (List D)
  | [.lst xs] => some (enumD 0 xs)
  | _ => none

/-! ### how it runs -/
abbrev Fns := Nat → List Val → Store → R Val
def strictAll : List Val → Option (List D)
  | [] => some []
  | v :: r => v.dat.bind fun x => (strictAll r).map (x :: ·)
def argsOf : List Val → Option (List Val)
  | [] => some []
  | v :: r => v.arg.bind fun x => (argsOf r).map (x :: ·)

/-- what an expression means: as a value, as a test, as something that is walked -/
structure Sm where
  ev : Env → Store → R Val
  ts : Env → Store → R Bool
  it : Env → Store → R (List D)
def Sm.v (f : Env → Store → R Val) : Sm where
  ev := f
  ts := fun E S => (f E S).bind fun v S1 => R.of ((v.peek S1).bind truD) S1
  it := fun E S => (f E S).bind fun v S1 => R.of (v.dat.bind itemsOf) S1
def Sm.walk (f : Env → Store → R (List D)) : Sm := ⟨fun _ _ => .no, fun _ _ => .no, f⟩
def Sm.k (v : Val) : Sm := .v fun _ S => .ok v S
def evAll : List Sm → Env → Store → R (List Val)
  | [], _, S => .ok [] S
  | m :: r, E, S => (m.ev E S).bind fun v S1 => (evAll r E S1).bind fun vs S2 => .ok (v :: vs) S2
def evAnd : List Sm → Env → Store → R Val
  | [], _, _ => .no
  | [m], E, S => m.ev E S
  | m :: r, E, S => (m.ev E S).bind fun v S1 => match v with
    | .d (.bl true) => evAnd r E S1
    | .d (.bl false) => .ok (.d (.bl false)) S1
    | _ => .no
def evOr : List Sm → Env → Store → R Val
  | [], _, _ => .no
  | [m], E, S => m.ev E S
  | m :: r, E, S => (m.ev E S).bind fun v S1 => match v with
    | .d (.bl false) => evOr r E S1
    | .d (.bl true) => .ok (.d (.bl true)) S1
    | _ => .no
def tsAnd : List Sm → Env → Store → R Bool
  | [], _, _ => .no
  | [m], E, S => m.ts E S
  | m :: r, E, S => (m.ts E S).bind fun c S1 => if c then tsAnd r E S1 else .ok false S1
def tsOr : List Sm → Env → Store → R Bool
  | [], _, _ => .no
  | [m], E, S => m.ts E S
  | m :: r, E, S => (m.ts E S).bind fun c S1 => if c then .ok true S1 else tsOr r E S1
def tsAll : List Sm → Env → Store → R Bool
  | [], _, S => .ok true S
  | [m], E, S => m.ts E S
  | _, _, _ => .no
def un (m : Sm) (f : D → Option Val) : Env → Store → R Val := fun E S =>
  (m.ev E S).bind fun v S1 => R.of ((v.peek S1).bind f) S1
def op2 (a b : Sm) (f : D → D → Option Val) : Env → Store → R Val := fun E S =>
  (a.ev E S).bind fun v S1 => (b.ev E S1).bind fun u S2 => R.of ((v.peek S2).bind fun x => (u.peek S2).bind fun y => f x y) S2
def negD : D → Option Val
  | .int i => some (.d (.int (-i)))
  | _ => none
def notD : D → Option Val
  | .bl b => some (.d (.bl !b))
  | _ => none
def cmpV (op : CmpOp) (x y : D) : Option Val := (cmpD op x y).map fun b => .d (.bl b)
def chain (o1 o2 : CmpOp) (a b c : Sm) : Env → Store → R Val := fun E S =>
  (a.ev E S).bind fun v S1 => (b.ev E S1).bind fun u S2 => (R.of ((v.peek S2).bind fun x => (u.peek S2).bind fun y => cmpD o1 x y) S2).bind fun k S2 =>
    if k then (c.ev E S2).bind fun w S3 => R.of ((u.peek S3).bind fun y => (w.peek S3).bind fun z => cmpV o2 y z) S3 else .ok (.d (.bl false)) S2
def evPart : Option Sm → Env → Store → R (Option Int)
  | none, _, S => .ok none S
  | some m, E, S => (m.ev E S).bind fun v S1 => match v with
    | .d (.int i) => .ok (some i) S1
    | _ => .no
/-- the turns of a comprehension -/
def turns (tg : Tg) (vs : List Nat) (test : Env → Store → R Bool) (go : Env → Store → R D) (E : Env) : List D → List D → Store → R (List D)
  | [], acc, S => .ok acc S
  | x :: r, acc, S => match asgT tg x (wipeE E vs) with
    | none => .no
    | some E' => (test E' S).bind fun b S1 =>
      if b then (go E' S1).bind fun y S2 => turns tg vs test go E r (acc ++ [y]) S2 else turns tg vs test go E r acc S1
def turnsD (tg : Tg) (vs : List Nat) (test : Env → Store → R Bool) (go : Env → Store → R (L2.Key × D)) (E : Env) : List D → (List L2.Key × List D) → Store → R (List L2.Key × List D)
  | [], acc, S => .ok acc S
  | x :: r, acc, S => match asgT tg x (wipeE E vs) with
    | none => .no
    | some E' => (test E' S).bind fun b S1 =>
      if b then (go E' S1).bind fun y S2 => turnsD tg vs test go E r (putD y.1 y.2 acc.1 acc.2) S2 else turnsD tg vs test go E r acc S1
def strict (m : Sm) : Env → Store → R D := fun E S => (m.ev E S).bind fun v S1 => R.of v.dat S1
def strict2 (k v : Sm) : Env → Store → R (L2.Key × D) := fun E S =>
  (k.ev E S).bind fun x S1 => (v.ev E S1).bind fun y S2 => R.of ((x.dat.bind asKey).bind fun q => y.dat.map fun z => (q, z)) S2

def lcM (mi me : Sm) (mfs : List Sm) (tg : Tg) (vs : List Nat) : Env → Store → R Val := fun E S =>
  (mi.it E S).bind fun xs S1 => ((turns tg vs (tsAll mfs) (strict me) E xs [] S1).calm).bind fun ys S2 => .ok (.own (.lst ys)) S2
def dcM (mi mk mv : Sm) (mfs : List Sm) (tg : Tg) (vs : List Nat) : Env → Store → R Val := fun E S =>
  (mi.it E S).bind fun xs S1 => ((turnsD tg vs (tsAll mfs) (strict2 mk mv) E xs ([], []) S1).calm).bind fun ys S2 => .ok (.own (.dct ys.1 ys.2)) S2

mutual
def sem (Fs : Fns) (Gs : List D) : Ex → Sm
  | .kN => .k (.d .non)
  | .kB b => .k (.d (.bl b))
  | .kI i => .k (.d (.int i))
  | .kS s => .k (.d (.str s))
  | .var i => .v fun E S => R.of (getV E i) S
  | .glb g => .v fun _ S => R.of ((Gs[g]?).map .d) S
  | .fnv f => .k (.d (.fn f))
  | .typ n => .k (.d (.ty n))
  | .clsv c => .k (.d (.cls c))
  | .neg a => .v (un (sem Fs Gs a) negD)
  | .bin op a b => .v (op2 (sem Fs Gs a) (sem Fs Gs b) (binD op))
  | .cmp op a b => .v (op2 (sem Fs Gs a) (sem Fs Gs b) (cmpV op))
  | .chn o1 o2 a b c => .v (chain o1 o2 (sem Fs Gs a) (sem Fs Gs b) (sem Fs Gs c))
  | .andE es => ⟨evAnd (sems Fs Gs es), tsAnd (sems Fs Gs es), fun _ _ => .no⟩
  | .orE es => ⟨evOr (sems Fs Gs es), tsOr (sems Fs Gs es), fun _ _ => .no⟩
  | .notE a => ⟨un (sem Fs Gs a) notD, fun E S => ((sem Fs Gs a).ts E S).bind fun b S1 => .ok (!b) S1, fun _ _ => .no⟩
  | .ife t a b => ⟨fun E S => ((sem Fs Gs t).ts E S).bind fun c S1 => if c then (sem Fs Gs a).ev E S1 else (sem Fs Gs b).ev E S1, fun _ _ => .no, fun E S => (((sem Fs Gs t).ts E S).bind fun c S1 => if c then (sem Fs Gs a).ev E S1 else (sem Fs Gs b).ev E S1).bind fun v S1 => R.of (v.dat.bind itemsOf) S1⟩
  | .tup es => .v fun E S => (evAll (sems Fs Gs es) E S).bind fun vs S1 => R.of ((strictAll vs).bind fun xs => if xs.length ≤ sizeLine then some (.d (.tup xs)) else none) S1
  | .lst es => .v fun E S => (evAll (sems Fs Gs es) E S).bind fun vs S1 => R.of ((strictAll vs).bind fun xs => if xs.length ≤ sizeLine then some (.own (.lst xs)) else none) S1
  | .ix a i => .v (op2 (sem Fs Gs a) (sem Fs Gs i) fun x y => (ixD x y).map .d)
  | .slc a lo hi => .v fun E S => ((sem Fs Gs a).ev E S).bind fun v S1 => (evPart (semo Fs Gs lo) E S1).bind fun l S2 => (evPart (semo Fs Gs hi) E S2).bind fun h S3 => R.of ((v.peek S3).bind fun x => slcD x l h) S3
  | .call f es => .v fun E S => (evAll (sems Fs Gs es) E S).bind fun vs S1 => (R.of (argsOf vs) S1).bind fun ws S1 => Fs f ws S1
  | .bi b es => .v fun E S => (evAll (sems Fs Gs es) E S).bind fun vs S1 => R.of ((peeks S1 vs).bind (biD b)) S1
  | .rng es => .walk fun E S => (evAll (sems Fs Gs es) E S).bind fun vs S1 => R.of ((strictAll vs).bind rngD) S1
  | .zip es => .walk fun E S => (evAll (sems Fs Gs es) E S).bind fun vs S1 => R.of ((strictAll vs).bind zipA) S1
  | .enum es => .walk fun E S => (evAll (sems Fs Gs es) E S).bind fun vs S1 => R.of ((strictAll vs).bind enumA) S1
  | .mt m a es => .v fun E S => ((sem Fs Gs a).ev E S).bind fun x S1 => (R.of (recv m x S1) S1).bind fun _ S1 => (evAll (sems Fs Gs es) E S1).bind fun vs S2 => (R.of (strictAll vs) S2).bind fun xs S2 => mtV m x xs S2
  | .lc e tg it ifs vs => .v (lcM (sem Fs Gs it) (sem Fs Gs e) (sems Fs Gs ifs) tg vs)
  | .dc k v tg it ifs vs => .v (dcM (sem Fs Gs it) (sem Fs Gs k) (sem Fs Gs v) (sems Fs Gs ifs) tg vs)
  | .isE i _ subs => .v fun E S => R.of ((errAt E i).map fun e => .d (.bl (subs.contains e.1))) S
  | .isV i => .v fun E S => R.of ((errAt E i).map fun _ => .d (.bl true)) S
  | .attr i _ cs => .v fun E S => R.of ((errAt E i).bind fun e => if cs.contains e.1 then some (.d e.2) else none) S
  | .dyn i es => .v fun E S => match getV E i with
    | some (.d (.fn j)) => (evAll (sems Fs Gs es) E S).bind fun vs S1 => (R.of (argsOf vs) S1).bind fun ws S1 => Fs j ws S1
    | _ => .no
  | .pm m a es => .v fun E S => ((sem Fs Gs a).ev E S).bind fun v S1 => (R.of (v.dat.bind (recvP m)) S1).bind fun x S1 => (evAll (sems Fs Gs es) E S1).bind fun vs S2 => R.of ((peeks S2 vs).bind fun xs => pmD m x xs) S2
def sems (Fs : Fns) (Gs : List D) : List Ex → List Sm
  | [] => []
  | e :: r => sem Fs Gs e :: sems Fs Gs r
def semo (Fs : Fns) (Gs : List D) : Option Ex → Option Sm
  | none => none
  | some e => some (sem Fs Gs e)
end

/-! ### statements -/
inductive Fl where
  | nx
  | bk
  | ct
  | rt (v : Val)
abbrev SM := Env → Store → R (Fl × Env)
/-- one behind the other -/
def andThen (a b : SM) : SM := fun E S => (a E S).bind fun p S1 => match p.1 with
  | .nx => b p.2 S1
  | f => .ok (f, p.2) S1
def loop (b : D → SM) : List D → SM
  | [], E, S => .ok (.nx, E) S
  | x :: r, E, S => (b x E S).bind fun p S1 => match p.1 with
    | .nx => loop b r p.2 S1
    | .ct => loop b r p.2 S1
    | .bk => .ok (.nx, p.2) S1
    | .rt v => .ok (.rt v, p.2) S1
def whileN (t : Env → Store → R Bool) (b : SM) : Nat → SM
  | 0, _, _ => .no
  | n + 1, E, S => (t E S).bind fun c S1 => if c then (b E S1).bind fun p S2 => match p.1 with
      | .nx => whileN t b n p.2 S2
      | .ct => whileN t b n p.2 S2
      | .bk => .ok (.nx, p.2) S2
      | .rt v => .ok (.rt v, p.2) S2
    else .ok (.nx, E) S1
def lift (o : Option Env) (S : Store) : R (Fl × Env) := (R.of o S).bind fun E S => .ok (.nx, E) S
def setAt : Val → D → D → Store → Option Store
  | .ref l, k, x, S => match S[l]? with
    | some (.lst xs) => (match k with
      | .int i => (L2.ixN xs.length i).map fun j => S.set l (.lst (xs.set j x))
      | _ => none)
    | some (.dct ks vs) => (asKey k).bind fun q => if ks.length < sizeLine then some (S.set l (.dct (putD q x ks vs).1 (putD q x ks vs).2)) else none
    | _ => none
  | _, _, _, _ => none
/-- o[i], p[j] = xs -/
def setAll : List (Sm × Sm) → List D → SM
  | [], [], E, S => .ok (.nx, E) S
  | (mo, mi) :: ms, x :: xs, E, S => (mo.ev E S).bind fun l S2 => (mi.ev E S2).bind fun k S3 => (R.of (k.dat.bind fun y => setAt l y x S3) S3).bind fun S4 _ => setAll ms xs E S4
  | _, _, _, _ => .no
def semPs (Fs : Fns) (Gs : List D) : List (Ex × Ex) → List (Sm × Sm)
  | [] => []
  | (o, i) :: r => (sem Fs Gs o, sem Fs Gs i) :: semPs Fs Gs r
def augI : Operator → Int → Int → Option Int
  | .Add, a, b => some (a + b)
  | .Sub, a, b => some (a - b)
  | _, _, _ => none
def augV (op : Operator) (a : Int) : Val → Option D
  | .d (.int b) => (augI op a b).map .int
  | _ => none
def augM (op : Operator) (i : Nat) (m : Env → Store → R Val) : SM := fun E S => match getV E i with
  | some (.d (.int a)) => (m E S).bind fun v S1 => lift ((augV op a v).map fun x => E.set i (some (.d x))) S1
  | _ => .no
def tupD (n : Nat) : D → Option (List D)
  | .tup xs => if xs.length = n then some xs else none
  | _ => none
mutual
def semS (Fs : Fns) (Gs : List D) (W : Nat) : Sx → SM
  | .asg i e => fun E S => ((sem Fs Gs e).ev E S).bind fun v S1 => lift (v.arg.bind fun w => if i < E.length then some (E.set i (some w)) else none) S1
  | .asgS ts e => fun E S => ((sem Fs Gs e).ev E S).bind fun v S1 => lift (v.dat.bind fun x => asgT (.seq ts) x E) S1
  | .asgN i e => fun E S => ((sem Fs Gs e).ev E S).bind fun v S1 => match v with
    | .own c => if i < E.length then .ok (.nx, E.set i (some (.ref S1.length))) (S1 ++ [c]) else .no
    | _ => .no
  | .setix o i e => fun E S => ((sem Fs Gs e).ev E S).bind fun v S1 => ((sem Fs Gs o).ev E S1).bind fun l S2 => ((sem Fs Gs i).ev E S2).bind fun k S3 =>
      (R.of (v.dat.bind fun x => k.dat.bind fun y => setAt l y x S3) S3).bind fun S4 _ => .ok (.nx, E) S4
  | .ex e => fun E S => ((sem Fs Gs e).ev E S).bind fun _ S1 => .ok (.nx, E) S1
  | .ret e => fun E S => ((sem Fs Gs e).ev E S).bind fun v S1 => .ok (.rt v, E) S1
  | .retN => fun E S => .ok (.rt (.d .non), E) S
  | .iff t a b => fun E S => ((sem Fs Gs t).ts E S).bind fun c S1 => if c then semB Fs Gs W a E S1 else semB Fs Gs W b E S1
  | .whl t b => whileN (sem Fs Gs t).ts (semB Fs Gs W b) W
  | .for tg it b => fun E S => ((sem Fs Gs it).it E S).bind fun xs S1 =>
      loop (fun x E S => (R.of (asgT tg x E) S).bind fun E' S => semB Fs Gs W b E' S) xs E S1
  | .brk => fun E S => .ok (.bk, E) S
  | .cont => fun E S => .ok (.ct, E) S
  | .pass => fun E S => .ok (.nx, E) S
  | .raise c es => fun E S => (evAll (sems Fs Gs es) E S).bind fun vs S1 => match strictAll vs with
    | some [x] => .ex c x S1
    | _ => .no
  | .tryR b _ subs d => fun E S => match semB Fs Gs W b E S with
    | .ok p S1 => .ok p S1
    | .ex k a S1 => if subs.contains k then .ok (.rt (.d d), E) S1 else .ex k a S1
    | .no => .no
  | .tryF b _ subs _ f => fun E S => match semB Fs Gs W b E S with
    | .ok p S1 => .ok p S1
    | .ex k a S1 => if subs.contains k then (match Fs f [.err k a] S1 with
      | .ok (.d x) S2 => .ok (.rt (.d x), E) S2
      | _ => .no) else .ex k a S1
    | .no => .no
  | .asgP i e1 j e2 => fun E S => ((sem Fs Gs e1).ev E S).bind fun v S1 => ((sem Fs Gs e2).ev E S1).bind fun w S2 => match v, w with
    | .own c, .d y => if i < E.length then .ok (.nx, (E.set i (some (.ref S2.length))).set j (some (.d y))) (S2 ++ [c]) else .no
    | _, _ => .no
  | .aug i op e => augM op i (sem Fs Gs e).ev
  | .asgX ts e => fun E S => ((sem Fs Gs e).ev E S).bind fun v S1 => (R.of (v.dat.bind (tupD ts.length)) S1).bind fun xs S1 => setAll (semPs Fs Gs ts) xs E S1
  | .frz i => fun E S => match getV E i with
    | some (.ref l) => (R.of ((S[l]?).bind Cell.dat) S).bind fun x S => .ok (.nx, E.set i (some (.d x))) (S.set l .gone)
    | _ => .no
def semB (Fs : Fns) (Gs : List D) (W : Nat) : List Sx → SM
  | [] => fun E S => .ok (.nx, E) S
  | s :: r => andThen (semS Fs Gs W s) (semB Fs Gs W r)
end
/-- what a def hands back: its own cells are let go -/
def fin (n : Nat) : R (Fl × Env) → R Val
  | .no => .no
  | .ex c a S => .ex c a (S.take n)
  | .ok (.rt (.ref l), _) S => if l < n then .ok (.ref l) (S.take n) else match S[l]? with
    | some (.lst xs) => .ok (.own (.lst xs)) (S.take n)
    | some (.dct ks vs) => .ok (.own (.dct ks vs)) (S.take n)
    | _ => .no
  | .ok (.rt v, _) S => .ok v (S.take n)
  | .ok (.nx, _) S => .ok (.d .non) (S.take n)
  | .ok _ _ => .no
/-- a def: how many parameters, how many slots, the body -/
structure Fd where
  np : Nat
  ns : Nat
  body : List Sx
  hot : Bool := false
def isErr1 : List Val → Bool
  | [.err _ _] => true
  | _ => false
def runF (Fs : Fns) (Gs : List D) (W : Nat) (f : Fd) (vs : List Val) (S : Store) : R Val :=
  if vs.length = f.np then fin S.length (semB Fs Gs W f.body (vs.map some ++ List.replicate (f.ns - vs.length) none) S) else .no
def callF (T : List Fd) (Gs : List D) (W : Nat) : Nat → Fns
  | 0, _, _, _ => .no
  | n + 1, f, vs, S => match T[f]? with
    | some fd => if fd.hot == isErr1 vs then runF (callF T Gs W n) Gs W fd vs S else .no
    | none => .no
end Mi

set_option maxHeartbeats 4000000
/-! how data lie in the abstract heap -/
namespace Mi
open PySem PySem.Spec PyProof.Rows L2

/-- where the text's defs and classes stand -/
structure Gb where
  K : PySem.W.Frag
  adr : Nat → Addr
  cad : Nat → Addr
  nfn : Nat
  ncl : Nat
  fld : Nat → Str
  pin : Option (Addr × Obj)

/-- a tuple of the written part -/
def KT (K : PySem.W.Frag) (a : Addr) (xs : List V) : Prop :=
  ∃ (o : Obj) (its : Array Value) (n : Nat), K.lookup a = some o ∧ o.cls = .type "tuple" ∧ o.data = .seq its n ∧ its.size ≤ sizeLine ∧ Vals xs its.toList

/-- a list that is only read: it stands, or it is the written part's -/
def RL (K : PySem.W.Frag) (H : Hp) (N : Addr → Prop) (a : Addr) (xs : List V) : Prop :=
  (Rd H a (.lst xs) ∧ ¬ N a) ∨ ∃ (o : Obj) (its : Array Value) (n : Nat), K.lookup a = some o ∧ o.cls = .type "list" ∧ o.dict = none ∧ o.data = .seq its n ∧ its.size ≤ sizeLine ∧ Vals xs its.toList
theorem RL.sq {K : PySem.W.Frag} {H : Hp} {N : Addr → Prop} {a : Addr} {xs : List V} (h : RL K H N a xs) : SqL K H a xs := h.imp (·.1) id
theorem RL.mono {K : PySem.W.Frag} {H H' : Hp} {N N' : Addr → Prop} {a : Addr} {xs : List V} (h : ∀ a o, H a = some o → ¬ N a → H' a = some o) (n : ∀ a, N' a → N a ∨ H a = none) (r : RL K H N a xs) : RL K H' N' a xs := by
  rcases r with ⟨hd, hn⟩ | r
  · exact .inl ⟨hd.imp (fun e => h _ _ e hn) fun ⟨o, e⟩ => ⟨o, h _ _ e hn⟩, fun z => (n _ z).elim hn fun e => by rcases hd with q | ⟨o, q⟩ <;> rw [e] at q <;> cases q⟩
  · exact .inr r
mutual
/-- a value shows data; what stands at N is left out -/
inductive DR (G : Gb) (H : Hp) (N : Addr → Prop) : V → D → Prop
  | non : DR G H N .non .non
  | bl (b : Bool) : DR G H N (.bl b) (.bl b)
  | int (i : Int) : DR G H N (.int i) (.int i)
  | str (s : Str) : DR G H N (.str s) (.str s)
  | lst {a : Addr} {vs : List V} {xs : List D} (h : Rd H a (.lst vs)) (n : ¬ N a) (r : DRs G H N vs xs) : DR G H N (.ref a) (.lst xs)
  | klst {a : Addr} {vs : List V} {xs : List D} (h : RL G.K H N a vs) (r : DRs G H N vs xs) : DR G H N (.ref a) (.klst xs)
  | tup {a : Addr} {vs : List V} {xs : List D} (h : Rd H a (.tup vs)) (n : ¬ N a) (r : DRs G H N vs xs) : DR G H N (.ref a) (.tup xs)
  | tupK {a : Addr} {vs : List V} {xs : List D} (h : KT G.K a vs) (r : DRs G H N vs xs) : DR G H N (.ref a) (.tup xs)
  | dct {a : Addr} {ks : List Key} {us : List V} {vs : List D} (h : Rd H a (.dK (ks.zip us))) (n : ¬ N a) (e : ks.length = us.length) (r : DRs G H N us vs) : DR G H N (.ref a) (.dct ks vs)
  | fn (i : Nat) (h : i < G.nfn) : DR G H N (.ref (G.adr i)) (.fn i)
  | ty (n : String) : DR G H N (.ty n) (.ty n)
  | cls (i : Nat) : DR G H N (.ref (G.cad i)) (.cls i)
inductive DRs (G : Gb) (H : Hp) (N : Addr → Prop) : List V → List D → Prop
  | nil : DRs G H N [] []
  | cons {v : V} {x : D} {vs : List V} {xs : List D} (h : DR G H N v x) (r : DRs G H N vs xs) : DRs G H N (v :: vs) (x :: xs)
end

section
variable {G : Gb} {H H' : Hp} {N N' : Addr → Prop}
mutual
theorem DR.mono (h : ∀ a o, H a = some o → ¬ N a → H' a = some o) (n : ∀ a, N' a → N a ∨ H a = none) : ∀ (x : D) {v : V}, DR G H N v x → DR G H' N' v x
  | .non, _, .non => .non
  | .bl _, _, .bl b => .bl b
  | .int _, _, .int i => .int i
  | .str _, _, .str s => .str s
  | .lst xs, _, .lst hd hn r => .lst (hd.imp (fun e => h _ _ e hn) fun ⟨o, e⟩ => ⟨o, h _ _ e hn⟩) (fun z => (n _ z).elim hn fun e => by rcases hd with q | ⟨o, q⟩ <;> rw [e] at q <;> cases q) (DRs.mono h n xs r)
  | .klst xs, _, .klst hd r => .klst (hd.mono h n) (DRs.mono h n xs r)
  | .tup xs, _, .tup hd hn r => .tup (hd.imp (fun e => h _ _ e hn) fun ⟨o, e⟩ => ⟨o, h _ _ e hn⟩) (fun z => (n _ z).elim hn fun e => by rcases hd with q | ⟨o, q⟩ <;> rw [e] at q <;> cases q) (DRs.mono h n xs r)
  | .tup xs, _, .tupK hk r => .tupK hk (DRs.mono h n xs r)
  | .dct ks vs, _, .dct hd hn e r => .dct (hd.imp (fun e => h _ _ e hn) fun ⟨o, e⟩ => ⟨o, h _ _ e hn⟩) (fun z => (n _ z).elim hn fun e => by rcases hd with q | ⟨o, q⟩ <;> rw [e] at q <;> cases q) e (DRs.mono h n vs r)
  | .fn _, _, .fn i h => .fn i h
  | .ty _, _, .ty n => .ty n
  | .cls _, _, .cls i => .cls i
theorem DRs.mono (h : ∀ a o, H a = some o → ¬ N a → H' a = some o) (n : ∀ a, N' a → N a ∨ H a = none) : ∀ (xs : List D) {vs : List V}, DRs G H N vs xs → DRs G H' N' vs xs
  | [], _, .nil => .nil
  | x :: xs, _, .cons q r => .cons (DR.mono h n x q) (DRs.mono h n xs r)
end
theorem DR.same (h : Same H H') {x : D} {v : V} (r : DR G H N v x) : DR G H' N v x := DR.mono (fun a o e _ => h a o e) (fun _ z => .inl z) x r
theorem DRs.same (h : Same H H') {x : List D} {v : List V} (r : DRs G H N v x) : DRs G H' N v x := DRs.mono (fun a o e _ => h a o e) (fun _ z => .inl z) x r
/-- fewer places are left out -/
theorem DR.less (h : ∀ a, N' a → N a) {x : D} {v : V} (r : DR G H N v x) : DR G H N' v x := DR.mono (fun a o e _ => e) (fun a z => .inl (h a z)) x r
theorem DRs.less (h : ∀ a, N' a → N a) {x : List D} {v : List V} (r : DRs G H N v x) : DRs G H N' v x := DRs.mono (fun a o e _ => e) (fun a z => .inl (h a z)) x r
theorem DRs.len : ∀ {vs : List V} {xs : List D}, DRs G H N vs xs → vs.length = xs.length
  | _, _, .nil => rfl
  | _, _, .cons _ r => congrArg (· + 1) r.len
theorem DRs.get : ∀ {vs : List V} {xs : List D} {i : Nat} {x : D}, DRs G H N vs xs → xs[i]? = some x → ∃ v, vs[i]? = some v ∧ DR G H N v x
  | _, _, _, _, .nil, e => by simp at e
  | _, _, 0, _, .cons h _, e => by simp at e; subst e; exact ⟨_, rfl, h⟩
  | _, _, i + 1, _, .cons _ r, e => by
    obtain ⟨v, h1, h2⟩ := r.get (i := i) (by simpa using e)
    exact ⟨v, by simpa using h1, h2⟩
theorem DRs.append : ∀ {vs us : List V} {xs ys : List D}, DRs G H N vs xs → DRs G H N us ys → DRs G H N (vs ++ us) (xs ++ ys)
  | _, _, _, _, .nil, s => s
  | _, _, _, _, .cons h r, s => .cons h (r.append s)
theorem DRs.take : ∀ {vs : List V} {xs : List D} (n : Nat), DRs G H N vs xs → DRs G H N (vs.take n) (xs.take n)
  | _, _, 0, _ => .nil
  | _, _, _ + 1, .nil => .nil
  | _, _, n + 1, .cons h r => .cons h (r.take n)
theorem DRs.drop : ∀ {vs : List V} {xs : List D} (n : Nat), DRs G H N vs xs → DRs G H N (vs.drop n) (xs.drop n)
  | _, _, 0, r => r
  | _, _, _ + 1, .nil => .nil
  | _, _, n + 1, .cons _ r => r.drop n
theorem DRs.set {v : V} {x : D} (h : DR G H N v x) : ∀ {vs : List V} {xs : List D} (i : Nat), DRs G H N vs xs → DRs G H N (vs.set i v) (xs.set i x)
  | _, _, _, .nil => .nil
  | _, _, 0, .cons _ r => .cons h r
  | _, _, i + 1, .cons q r => .cons q (r.set h i)
theorem DRs.rep : ∀ {vs : List V} {xs : List D} (n : Nat), DRs G H N vs xs → DRs G H N (List.replicate n vs).flatten (List.replicate n xs).flatten
  | _, _, 0, _ => .nil
  | _, _, n + 1, r => by
    rw [List.replicate_succ, List.replicate_succ, List.flatten_cons, List.flatten_cons]
    exact r.append (r.rep n)
end

/-- a cell's content stands at a -/
def CellR (G : Gb) (H : Hp) (N : Addr → Prop) (a : Addr) : Cell → Prop
  | .lst xs => ∃ vs, H a = some (.lst vs) ∧ DRs G H N vs xs
  | .dct ks vs => ∃ us, H a = some (.dK (ks.zip us)) ∧ ks.length = us.length ∧ DRs G H N us vs
  | .gone => True
def Cell.lives : Cell → Prop
  | .gone => False
  | _ => True
/-- the l-th cell lives and stands at a -/
def At (ρ : List Addr) (S : Store) (l : Nat) (a : Addr) : Prop := ρ[l]? = some a ∧ ∃ c, S[l]? = some c ∧ c.lives
def Live (ρ : List Addr) (S : Store) (a : Addr) : Prop := ∃ l, At ρ S l a
/-- what is not to be met within data: the living cells, and what lies apart -/
def Av (M : Addr → Prop) (ρ : List Addr) (S : Store) (a : Addr) : Prop := Live ρ S a ∨ M a
structure Sim (G : Gb) (M : Addr → Prop) (H : Hp) (ρ : List Addr) (S : Store) : Prop where
  len : ρ.length = S.length
  uni : ∀ l l' a, At ρ S l a → At ρ S l' a → l = l'
  cell : ∀ (l : Nat) a c, ρ[l]? = some a → S[l]? = some c → CellR G H (Av M ρ S) a c
  all : ∀ (l : Nat) a, ρ[l]? = some a → H a ≠ none
  apart : ∀ a, M a → H a ≠ none
  ap : ∀ (l : Nat) a, ρ[l]? = some a → ¬ M a
/-- what is apart, and one thing more -/
abbrev And1 (M : Addr → Prop) (D : Addr) : Addr → Prop := fun a => M a ∨ a = D
/-- what stands in a slot -/
inductive VR (G : Gb) (H : Hp) (N : Addr → Prop) (ρ : List Addr) : V → Val → Prop
  | d {v : V} {x : D} (h : DR G H N v x) : VR G H N ρ v (.d x)
  | ref {a : Addr} {l : Nat} (h : ρ[l]? = some a) : VR G H N ρ (.ref a) (.ref l)
  | err {a : Addr} {oe : Obj} {dx : Addr} {v : V} {c : Nat} {x : D} (hp : G.pin = some (a, oe)) (hc : oe.cls = .ref (G.cad c)) (hd : oe.dict = some dx) (hf : ∃ vs, oe.data = .fields vs) (hn : c < G.ncl) (hH : H dx = some (.xd [(G.fld c, v)])) (nd : ¬ N dx) (h : DR G H N v x) : VR G H N ρ (.ref a) (.err c x)
structure EnvR (G : Gb) (H : Hp) (N : Addr → Prop) (ρ : List Addr) (σ : L2.St) (E : Env) : Prop where
  len : σ.length = E.length
  val : ∀ (i : Nat) x, E[i]? = some (some x) → ∃ v, σ[i]? = some (some v) ∧ VR G H N ρ v x

/-- from one moment to a later one: what is no cell stays, no cell comes to life -/
structure Step (ρ : List Addr) (S : Store) (H : Hp) (S' : Store) (H' : Hp) : Prop where
  keep : ∀ a o, H a = some o → ¬ Live ρ S a → H' a = some o
  live : ∀ a, Live ρ S' a → Live ρ S a
theorem Step.refl {ρ : List Addr} {S : Store} {H : Hp} : Step ρ S H S H := ⟨fun _ _ e _ => e, fun _ h => h⟩
theorem Step.trans {ρ : List Addr} {S S1 S2 : Store} {H H1 H2 : Hp} (a : Step ρ S H S1 H1) (b : Step ρ S1 H1 S2 H2) : Step ρ S H S2 H2 :=
  ⟨fun c o e n => b.keep c o (a.keep c o e n) fun z => n (a.live c z), fun c z => a.live c (b.live c z)⟩
theorem Step.same {ρ : List Addr} {S : Store} {H H' : Hp} (h : Same H H') : Step ρ S H S H' := ⟨fun a o e _ => h a o e, fun _ h => h⟩

section
variable {G : Gb} {H H' : Hp} {N N' M : Addr → Prop} {ρ : List Addr} {S S' : Store} {σ : L2.St} {E : Env}
theorem CellR.same (h : Same H H') {a : Addr} : ∀ {c : Cell}, CellR G H N a c → CellR G H' N a c
  | .lst _, ⟨vs, e, r⟩ => ⟨vs, h _ _ e, r.same h⟩
  | .dct _ _, ⟨us, e, z, r⟩ => ⟨us, h _ _ e, z, r.same h⟩
  | .gone, _ => trivial
theorem CellR.less (h : ∀ a, N' a → N a) {a : Addr} : ∀ {c : Cell}, CellR G H N a c → CellR G H N' a c
  | .lst _, ⟨vs, e, r⟩ => ⟨vs, e, r.less h⟩
  | .dct _ _, ⟨us, e, z, r⟩ => ⟨us, e, z, r.less h⟩
  | .gone, _ => trivial
theorem same_there (h : Same H H') {a : Addr} (e : H a ≠ none) : H' a ≠ none := fun z => by
  cases q : H a with
  | none => exact e q
  | some o => rw [h a o q] at z; cases z
theorem Sim.same (h : Same H H') (s : Sim G M H ρ S) : Sim G M H' ρ S :=
  ⟨s.len, s.uni, fun l a c e1 e2 => (s.cell l a c e1 e2).same h, fun l a e => same_there h (s.all l a e), fun a e => same_there h (s.apart a e), s.ap⟩
theorem Sim.there (s : Sim G M H ρ S) {a : Addr} (h : Live ρ S a) : H a ≠ none := let ⟨l, e, _⟩ := h; s.all l a e
theorem Sim.fit (s : Sim G M H ρ S) : ∀ a, Av M ρ S a → H a ≠ none := fun a z => z.elim s.there (s.apart a)
theorem av_and {D a : Addr} : Av (And1 M D) ρ S a ↔ (Av M ρ S a ∨ a = D) := by unfold Av; exact or_assoc.symm
theorem Sim.drop {D : Addr} (s : Sim G (And1 M D) H ρ S) : Sim G M H ρ S :=
  ⟨s.len, s.uni, fun l a c e1 e2 => (s.cell l a c e1 e2).less fun a z => av_and.mpr (.inl z), s.all, fun a e => s.apart a (.inl e), fun l a e z => s.ap l a e (.inl z)⟩
theorem Step.av (t : Step ρ S H S' H') : ∀ a, Av M ρ S' a → Av M ρ S a := fun a z => z.imp (t.live a) id
theorem Step.keep' (t : Step ρ S H S' H') : ∀ a o, H a = some o → ¬ Av M ρ S a → H' a = some o := fun a o e n => t.keep a o e fun z => n (.inl z)
theorem VR.mono (h : ∀ a o, H a = some o → ¬ N a → H' a = some o) (n : ∀ a, N' a → N a ∨ H a = none) {v : V} {x : Val} : VR G H N ρ v x → VR G H' N' ρ v x
  | .d r => .d (r.mono h n)
  | .ref e => .ref e
  | .err hp hc hd hf hn hH nd r => .err hp hc hd hf hn (h _ _ hH nd) (fun z => (n _ z).elim nd fun e => by rw [hH] at e; cases e) (r.mono h n)
theorem VR.step (t : Step ρ S H S' H') {v : V} {x : Val} (r : VR G H (Av M ρ S) ρ v x) : VR G H' (Av M ρ S') ρ v x := r.mono t.keep' fun a z => .inl (t.av a z)
theorem DR.step (t : Step ρ S H S' H') {v : V} {x : D} (r : DR G H (Av M ρ S) v x) : DR G H' (Av M ρ S') v x := DR.mono t.keep' (fun a z => .inl (t.av a z)) x r
theorem DRs.step (t : Step ρ S H S' H') {v : List V} {x : List D} (r : DRs G H (Av M ρ S) v x) : DRs G H' (Av M ρ S') v x := DRs.mono t.keep' (fun a z => .inl (t.av a z)) x r
theorem EnvR.step (t : Step ρ S H S' H') (r : EnvR G H (Av M ρ S) ρ σ E) : EnvR G H' (Av M ρ S') ρ σ E := ⟨r.len, fun i x e => let ⟨v, h1, h2⟩ := r.val i x e; ⟨v, h1, h2.step t⟩⟩
end

/-- an exception of the text's own -/
def ExR (G : Gb) (H : Hp) (N : Addr → Prop) (cls : Value) (d : Option Addr) (c : Nat) (a : D) : Prop :=
  cls = .ref (G.cad c) ∧ c < G.ncl ∧ ∃ dx v, d = some dx ∧ H dx = some (.xd [(G.fld c, v)]) ∧ ¬ N dx ∧ DR G H N v a
/-- what an expression has given -/
def Out (G : Gb) (M : Addr → Prop) (H : Hp) (ρ : List Addr) (S' : Store) (v : V) (H' : Hp) : Val → Prop
  | .own c => ∃ p, v = .ref p ∧ H p = none ∧ ¬ Av M ρ S' p ∧ (∀ l : Nat, ρ[l]? ≠ some p) ∧ c.lives ∧ Sim G (And1 M p) H' ρ S' ∧ CellR G H' (Av (And1 M p) ρ S') p c
  | x => Sim G M H' ρ S' ∧ VR G H' (Av M ρ S') ρ v x
def Got (G : Gb) (W : WX) (M : Addr → Prop) (σ : L2.St) (ρ : List Addr) (S : Store) (H : Hp) {α : Type} (r : R α) (P : α → Store → Prop) : Prop := match r with
  | .ok x S' => P x S'
  | .ex c a S' => ∀ cls d H', Step ρ S H S' H' → Sim G M H' ρ S' → ExR G H' (Av M ρ S') cls d c a → W cls d σ H'
  | .no => False
section
variable {G : Gb} {W : WX} {M : Addr → Prop} {σ : L2.St} {ρ : List Addr} {S S1 S' : Store} {H H1 : Hp} {α β : Type}
theorem Got.imp {r : R α} {P P' : α → Store → Prop} (h : Got G W M σ ρ S H r P) (f : ∀ x S', P x S' → P' x S') : Got G W M σ ρ S H r P' := by
  cases r with
  | ok x S' => exact f x S' h
  | ex c a S' => exact h
  | no => exact h
theorem Got.bind {r : R α} {f : α → Store → R β} {P : β → Store → Prop} (h : Got G W M σ ρ S H (r.bind f) P) : Got G W M σ ρ S H r fun x S' => Got G W M σ ρ S H (f x S') P := by
  cases r with
  | ok x S' => exact h
  | ex c a S' => exact h
  | no => exact h
/-- the same from a later moment -/
theorem Got.later {r : R α} {P : α → Store → Prop} (t : Step ρ S H S1 H1) (h : Got G W M σ ρ S H r P) : Got G W M σ ρ S1 H1 r P := by
  cases r with
  | ok x S' => exact h
  | ex c a S' => exact fun cls d H' t' s e => h cls d H' (t.trans t') s e
  | no => exact h
theorem Out.sim {v : V} {H' : Hp} {x : Val} (h : Out G M H ρ S' v H' x) : Sim G M H' ρ S' := by
  cases x with
  | own c => obtain ⟨p, _, _, _, _, _, s, _⟩ := h; exact s.drop
  | d x => exact h.1
  | ref l => exact h.1
  | err c a => exact h.1
/-- as data, or in a slot -/
theorem Out.arg {v : V} {H' : Hp} {x y : Val} (h : Out G M H ρ S' v H' x) (e : x.arg = some y) : VR G H' (Av M ρ S') ρ v y := by
  cases x with
  | own c =>
    obtain ⟨p, rfl, hp, np, hn, hl, s, hc⟩ := h
    cases c with
    | lst xs =>
      obtain ⟨vs, h1, h2⟩ := hc
      cases e
      exact .d (.lst (.inl h1) np (h2.less fun a z => av_and.mpr (.inl z)))
    | dct ks vs =>
      obtain ⟨us, h1, z, h2⟩ := hc
      cases e
      exact .d (.dct (.inl h1) np z (h2.less fun a z => av_and.mpr (.inl z)))
    | gone => exact hl.elim
  | d x => cases e; exact h.2
  | ref l => cases e; exact h.2
  | err c a => cases e; exact h.2
end
end Mi

set_option maxHeartbeats 4000000
/-! an expression of the text does what the small language says: the forms -/
namespace Mi
open PySem PySem.Spec PyProof.Rows L2

/-- a value of an argument list -/
inductive AR (G : Gb) (H : Hp) (N : Addr → Prop) (ρ : List Addr) : V → Val → Prop
  | d {v : V} {x : D} (h : DR G H N v x) : AR G H N ρ v (.d x)
  | own {v : V} {c : Cell} {x : D} (e : c.dat = some x) (h : DR G H N v x) : AR G H N ρ v (.own c)
  | ref {a : Addr} {l : Nat} (h : ρ[l]? = some a) : AR G H N ρ (.ref a) (.ref l)
  | err {v : V} {c : Nat} {x : D} (h : VR G H N ρ v (.err c x)) : AR G H N ρ v (.err c x)
abbrev ARs (G : Gb) (H : Hp) (N : Addr → Prop) (ρ : List Addr) : List V → List Val → Prop := Paired (AR G H N ρ)
/-- a value that is read at once -/
inductive TR (G : Gb) (H : Hp) (N : Addr → Prop) : V → D → Prop
  | dr {v : V} {x : D} (h : DR G H N v x) : TR G H N v x
  | lst {a : Addr} {vs : List V} {xs : List D} (h : H a = some (.lst vs)) (r : DRs G H N vs xs) : TR G H N (.ref a) (.lst xs)
  | dct {a : Addr} {ks : List Key} {us : List V} {vs : List D} (h : H a = some (.dK (ks.zip us))) (e : ks.length = us.length) (r : DRs G H N us vs) : TR G H N (.ref a) (.dct ks vs)
abbrev TRs (G : Gb) (H : Hp) (N : Addr → Prop) : List V → List D → Prop := Paired (TR G H N)

section
variable {G : Gb} {W : WX} {M : Addr → Prop} {σ : L2.St} {ρ : List Addr} {S S1 S' : Store} {H H1 H' : Hp} {N : Addr → Prop}
theorem Out.ar {v : V} {x : Val} (h : Out G M H ρ S' v H' x) : AR G H' (Av M ρ S') ρ v x := by
  cases x with
  | own c =>
    obtain ⟨p, rfl, hp, np, hn, hl, s, hc⟩ := h
    cases c with
    | lst xs =>
      obtain ⟨vs, h1, h2⟩ := hc
      exact .own rfl (.lst (.inl h1) np (h2.less fun a z => av_and.mpr (.inl z)))
    | dct ks vs =>
      obtain ⟨us, h1, z, h2⟩ := hc
      exact .own rfl (.dct (.inl h1) np z (h2.less fun a z => av_and.mpr (.inl z)))
    | gone => exact hl.elim
  | d x => obtain ⟨_, r⟩ := h; cases r with | d q => exact .d q
  | ref l => obtain ⟨_, r⟩ := h; cases r with | ref q => exact .ref q
  | err c a => obtain ⟨_, r⟩ := h; exact .err r
theorem AR.step (t : Step ρ S H S' H') {v : V} {x : Val} (r : AR G H (Av M ρ S) ρ v x) : AR G H' (Av M ρ S') ρ v x := by
  cases r with
  | d h => exact .d (h.step t)
  | own e h => exact .own e (h.step t)
  | ref h => exact .ref h
  | err h => exact .err (h.step t)
theorem ARs.step (t : Step ρ S H S' H') : ∀ {vs : List V} {xs : List Val}, ARs G H (Av M ρ S) ρ vs xs → ARs G H' (Av M ρ S') ρ vs xs
  | _, _, .nil => .nil
  | _, _, .cons h r => .cons (h.step t) (ARs.step t r)
theorem AR.dat {v : V} {x : Val} {d : D} (r : AR G H N ρ v x) (e : x.dat = some d) : DR G H N v d := by
  cases r with
  | d h => cases e; exact h
  | own q h => exact Option.some.inj (q.symm.trans e) ▸ h
  | ref h => cases e
  | err h => cases e
theorem AR.arg {v : V} {x y : Val} (r : AR G H N ρ v x) (e : x.arg = some y) : VR G H N ρ v y := by
  cases r with
  | d h => cases e; exact .d h
  | own q h =>
    have e' : (Cell.dat _).map Val.d = some y := e
    rw [q] at e'
    cases e'
    exact .d h
  | ref h => cases e; exact .ref h
  | err h => cases e; exact h
theorem AR.peek {v : V} {x : Val} {d : D} (s : Sim G M H ρ S) (r : AR G H (Av M ρ S) ρ v x) (e : x.peek S = some d) : TR G H (Av M ρ S) v d := by
  cases r with
  | d h => cases e; exact .dr h
  | own q h => exact .dr (Option.some.inj (q.symm.trans e) ▸ h)
  | err h => cases e
  | ref h =>
    rename_i a l
    have e' : (S[l]?).bind Cell.dat = some d := e
    cases q : S[l]? with
    | none => rw [q] at e'; cases e'
    | some c =>
      rw [q] at e'
      have k := s.cell l a c h q
      cases c with
      | lst xs => cases e'; obtain ⟨vs, h1, h2⟩ := k; exact .lst h1 h2
      | dct ks vs => cases e'; obtain ⟨us, h1, z, h2⟩ := k; exact .dct h1 z h2
      | gone => cases e'
theorem ARs.peeks (s : Sim G M H ρ S) : ∀ {vs : List V} {xs : List Val} {ds : List D}, ARs G H (Av M ρ S) ρ vs xs → Mi.peeks S xs = some ds → TRs G H (Av M ρ S) vs ds
  | _, _, _, .nil, e => by cases e; exact .nil
  | _, x :: xs, _, .cons h r, e => by
    unfold Mi.peeks at e
    cases q : x.peek S with
    | none => rw [q] at e; cases e
    | some d =>
      rw [q] at e
      cases q2 : Mi.peeks S xs with
      | none => rw [q2] at e; cases e
      | some ds => rw [q2] at e; cases e; exact .cons (h.peek s q) (ARs.peeks s r q2)
theorem ARs.strict : ∀ {vs : List V} {xs : List Val} {ds : List D}, ARs G H N ρ vs xs → strictAll xs = some ds → DRs G H N vs ds
  | _, _, _, .nil, e => by cases e; exact .nil
  | _, x :: xs, _, .cons h r, e => by
    unfold strictAll at e
    cases q : x.dat with
    | none => rw [q] at e; cases e
    | some d =>
      rw [q] at e
      cases q2 : strictAll xs with
      | none => rw [q2] at e; cases e
      | some ds => rw [q2] at e; cases e; exact .cons (h.dat q) (ARs.strict r q2)
theorem ARs.args : ∀ {vs : List V} {xs ys : List Val}, ARs G H N ρ vs xs → argsOf xs = some ys → Paired (VR G H N ρ) vs ys
  | _, _, _, .nil, e => by cases e; exact .nil
  | _, x :: xs, _, .cons h r, e => by
    unfold argsOf at e
    cases q : x.arg with
    | none => rw [q] at e; cases e
    | some d =>
      rw [q] at e
      cases q2 : argsOf xs with
      | none => rw [q2] at e; cases e
      | some ds => rw [q2] at e; cases e; exact .cons (h.arg q) (ARs.args r q2)
theorem Out.later {v : V} {x : Val} (t : Step ρ S H S1 H1) (s : Sim G M H ρ S) (h : Out G M H1 ρ S' v H' x) : Out G M H ρ S' v H' x := by
  cases x with
  | own c =>
    obtain ⟨p, e, hp, np, r⟩ := h
    refine ⟨p, e, ?_, np, r⟩
    cases q : H p with
    | none => rfl
    | some o =>
      by_cases l : Live ρ S p
      · obtain ⟨i, hi, _⟩ := l
        exact absurd hi (r.1 i)
      · rw [t.keep p o q l] at hp; cases hp
  | d x => exact h
  | ref l => exact h
  | err c a => exact h
end

/-! ### readings -/
section
variable (G : Gb) (W : WX)
def tI (m : Env → Store → R Val) : TE := fun σ H Q => ∃ M ρ E S, EnvR G H (Av M ρ S) ρ σ E ∧ Sim G M H ρ S ∧ Got G W M σ ρ S H (m E S) fun x S' => ∀ v H', Step ρ S H S' H' → Out G M H ρ S' v H' x → Q v H'
def tT (m : Env → Store → R Bool) : TT := fun σ H Q => ∃ M ρ E S, EnvR G H (Av M ρ S) ρ σ E ∧ Sim G M H ρ S ∧ Got G W M σ ρ S H (m E S) fun b S' => ∀ H', Step ρ S H S' H' → Sim G M H' ρ S' → Q b H'
def tAs (m : Env → Store → R (List Val)) : TA := fun σ H Q => ∃ M ρ E S, EnvR G H (Av M ρ S) ρ σ E ∧ Sim G M H ρ S ∧ Got G W M σ ρ S H (m E S) fun xs S' => ∀ vs H', Step ρ S H S' H' → Sim G M H' ρ S' → ARs G H' (Av M ρ S') ρ vs xs → Q vs H'
/-- an iterator that gives these -/
def ItOk (M : Addr → Prop) (ρ : List Addr) (S : Store) (H : Hp) (J : It) (xs : List D) : Prop := xs.length ≤ sizeLine ∧ ∀ (i : Nat) (H2 : Hp) (N : Addr → Prop), (∀ a o, H a = some o → ¬ Av M ρ S a → H2 a = some o) → (∀ a, N a → (Av M ρ S a ∨ H a = none) ∧ H2 a ≠ none) →
  (xs.length = i → J.stop i H2) ∧ ∀ x, xs[i]? = some x → J.go i H2 ∧ ∀ v H3, J.yld i H2 v H3 → Same H2 H3 ∧ DR G H3 N v x
def tIt (m : Env → Store → R (List D)) : TI := fun σ H Q => ∃ M ρ E S, EnvR G H (Av M ρ S) ρ σ E ∧ Sim G M H ρ S ∧ Got G W M σ ρ S H (m E S) fun xs S' => ∀ J H', Step ρ S H S' H' → Sim G M H' ρ S' → ItOk G M ρ S' H' J xs → Q J H'
end

/-! ### judgements may be weakened, chosen by what holds -/
section
variable {X : Cx} {e : Expr} {es : List Expr}
theorem PE_imp {t t' : TE} (h : PE X e t) (f : ∀ σ H Q, t' σ H Q → t σ H Q) : PE X e t' := ⟨fun p s σ H Q I q => h.run p s σ H Q I (f σ H Q q)⟩
theorem PT_imp {t t' : TT} (h : PT X e t) (f : ∀ σ H Q, t' σ H Q → t σ H Q) : PT X e t' := ⟨fun p s σ H Q I q => h.run p s σ H Q I (f σ H Q q)⟩
theorem PW_imp {t t' : TT} (h : PW X e t) (f : ∀ σ H Q, t' σ H Q → t σ H Q) : PW X e t' := ⟨fun w p s σ H Q I q => h.run w p s σ H Q I (f σ H Q q)⟩
theorem PA_imp {t t' : TA} (h : PA X es t) (f : ∀ σ H Q, t' σ H Q → t σ H Q) : PA X es t' := ⟨fun pos p s σ H Q I q => h.run pos p s σ H Q I (f σ H Q q)⟩
theorem PI_imp {tg : Expr} {t t' : TI} (h : PI X tg e t) (f : ∀ σ H Q, t' σ H Q → t σ H Q) : PI X tg e t' := ⟨fun p s σ H Q I q => h.run p s σ H Q I (f σ H Q q)⟩
theorem PI_or {tg : Expr} {t t' : TI} (h : PI X tg e t) (h' : PI X tg e t') : PI X tg e (fun σ H Q => t σ H Q ∨ t' σ H Q) := ⟨fun p s σ H Q I q => q.elim (h.run p s σ H Q I) (h'.run p s σ H Q I)⟩
theorem PE_no : PE X e (fun _ _ _ => False) := ⟨fun _ _ _ _ _ _ q => q.elim⟩
theorem PT_no : PT X e (fun _ _ _ => False) := ⟨fun _ _ _ _ _ _ q => q.elim⟩
theorem PI_no {tg : Expr} : PI X tg e (fun _ _ _ => False) := ⟨fun _ _ _ _ _ _ q => q.elim⟩
end

/-- the three readings of an expression -/
def tupT : Expr → Bool
  | .Tuple _ _ _ => true
  | _ => false
structure Sok (G : Gb) (W : WX) (X : Cx) (e : Expr) (m : Sm) (p : Bool) : Prop where
  ev : PE X e (tI G W m.ev)
  ts : PT X e (tT G W m.ts)
  it : ∀ tg, (p = true → tupT tg = true) → PI X tg e (tIt G W m.it)

section
variable {G : Gb} {W : WX} {X : Cx} {M : Addr → Prop} {σ : L2.St} {ρ : List Addr} {S S1 S' : Store} {H H1 H' : Hp} {N : Addr → Prop}
theorem of_some {α : Type} {o : Option α} {S : Store} {P : α → Store → Prop} (h : Got G W M σ ρ S1 H (R.of o S) P) : ∃ a, o = some a ∧ P a S := by
  cases o with
  | none => exact h.elim
  | some a => exact ⟨a, rfl, h⟩

/-! ### what is walked: a list, a tuple -/
theorem itOk_list {a : Addr} {vs : List V} {xs : List D} (z : vs.length ≤ sizeLine) (h : RL G.K H (Av M ρ S) a vs) (r : DRs G H (Av M ρ S) vs xs) : ItOk G M ρ S H (Itl G.K a) xs := by
  refine ⟨by rw [← r.len]; exact z, fun i H2 N k hN => ?_⟩
  have h2 : SqL G.K H2 a vs := (h.mono k fun b z => (hN b z).1 |>.elim .inl .inr).sq
  refine ⟨fun hi => ⟨vs, h2, by rw [r.len]; exact Nat.le_of_eq hi⟩, fun x e => ?_⟩
  obtain ⟨v, e1, e2⟩ := r.get e
  refine ⟨⟨vs, v, h2, e1⟩, fun u H3 ⟨eH, y⟩ => ?_⟩
  subst eH
  have eu := y vs h2
  rw [e1] at eu
  cases eu
  exact ⟨Same.refl _, DR.mono k (fun b z => (hN b z).1) x e2⟩
theorem itOk_tup {a : Addr} {vs : List V} {xs : List D} (z : vs.length ≤ sizeLine) (h : (Rd H a (.tup vs) ∧ ¬ Av M ρ S a) ∨ KT G.K a vs) (r : DRs G H (Av M ρ S) vs xs) : ItOk G M ρ S H (Itt G.K a) xs := by
  refine ⟨by rw [← r.len]; exact z, fun i H2 N k hN => ?_⟩
  have h2 : SqT G.K H2 a vs := by
    rcases h with ⟨h, n⟩ | h
    · exact .inl (h.imp (fun e => k _ _ e n) fun ⟨o, e⟩ => ⟨o, k _ _ e n⟩)
    · exact .inr h
  refine ⟨fun hi => ⟨vs, h2, by rw [r.len]; exact Nat.le_of_eq hi⟩, fun x e => ?_⟩
  obtain ⟨v, e1, e2⟩ := r.get e
  refine ⟨⟨vs, v, h2, e1⟩, fun u H3 ⟨eH, y⟩ => ?_⟩
  subst eH
  have eu := y vs h2
  rw [e1] at eu
  cases eu
  exact ⟨Same.refl _, DR.mono k (fun b z => (hN b z).1) x e2⟩
theorem of_if {c : Prop} [Decidable c] {α : Type} {a b : α} (h : (if c then some a else none) = some b) : c ∧ a = b := by
  by_cases z : c
  · rw [if_pos z] at h; exact ⟨z, Option.some.inj h⟩
  · rw [if_neg z] at h; cases h
theorem Rd.seq {K : PySem.W.Frag} {a : Addr} {vs : List V} (h : Rd H a (.lst vs)) : SqL K H a vs := .inl h
theorem TR.listR {v : V} {xs : List D} (h : TR G H N v (.lst xs)) : ∃ a vs, v = .ref a ∧ Rd H a (.lst vs) ∧ DRs G H N vs xs := by
  cases h with
  | dr h => cases h with | lst h n r => exact ⟨_, _, rfl, h, r⟩
  | lst h r => exact ⟨_, _, rfl, .inl h, r⟩
theorem DR.tupR {v : V} {xs : List D} (h : DR G H N v (.tup xs)) : ∃ a vs, v = .ref a ∧ SqT G.K H a vs ∧ DRs G H N vs xs ∧ ((Rd H a (.tup vs) ∧ ¬ N a) ∨ KT G.K a vs) := by
  cases h with
  | tup h n r => exact ⟨_, _, rfl, .inl h, r, .inl ⟨h, n⟩⟩
  | tupK h r => exact ⟨_, _, rfl, .inr h, r, .inr h⟩
theorem TR.tupR {v : V} {xs : List D} (h : TR G H N v (.tup xs)) : ∃ a vs, v = .ref a ∧ SqT G.K H a vs ∧ DRs G H N vs xs := by
  cases h with
  | dr h => obtain ⟨a, vs, e, h1, h2, _⟩ := h.tupR; exact ⟨a, vs, e, h1, h2⟩
theorem DR.listR {v : V} {xs : List D} (h : DR G H N v (.lst xs)) : ∃ a vs, v = .ref a ∧ Rd H a (.lst vs) ∧ ¬ N a ∧ DRs G H N vs xs := by
  cases h with
  | lst h n r => exact ⟨_, _, rfl, h, n, r⟩
theorem DR.klstR {v : V} {xs : List D} (h : DR G H N v (.klst xs)) : ∃ a vs, v = .ref a ∧ RL G.K H N a vs ∧ DRs G H N vs xs := by
  cases h with
  | klst h r => exact ⟨_, _, rfl, h, r⟩
theorem TR.klstR {v : V} {xs : List D} (h : TR G H N v (.klst xs)) : ∃ a vs, v = .ref a ∧ RL G.K H N a vs ∧ DRs G H N vs xs := by
  cases h with
  | dr h => exact h.klstR
theorem TR.int {v : V} {i : Int} (h : TR G H N v (.int i)) : v = .int i := by
  cases h with
  | dr h => cases h; rfl
theorem TR.bl {v : V} {i : Bool} (h : TR G H N v (.bl i)) : v = .bl i := by
  cases h with
  | dr h => cases h; rfl
theorem TR.str {v : V} {i : Str} (h : TR G H N v (.str i)) : v = .str i := by
  cases h with
  | dr h => cases h; rfl
theorem isEmpty_len {α β : Type} {xs : List α} {ys : List β} (h : xs.length = ys.length) : xs.isEmpty = ys.isEmpty := by
  cases xs <;> cases ys <;> first | rfl | (exact absurd h (by simp))
theorem TR.tru {v : V} {x : D} {b : Bool} (h : TR G H N v x) (e : truD x = some b) : TruV G.K v H b := by
  cases x with
  | non => cases e; cases h with | dr h => cases h; rfl
  | bl c => cases e; rw [h.bl]; rfl
  | int i => cases e; rw [h.int]; rfl
  | str s =>
    rw [h.str]
    obtain ⟨z, e⟩ := of_if (show (if s.length ≤ sizeLine then some (s.length != 0) else none) = some b from e)
    subst e
    refine ⟨z, ?_⟩
    cases s.length <;> rfl
  | lst xs => cases e; obtain ⟨a, vs, rfl, h1, h2⟩ := h.listR; exact .inl ⟨vs, .inl h1, by rw [isEmpty_len h2.len]⟩
  | tup xs => cases e; obtain ⟨a, vs, rfl, h1, h2⟩ := h.tupR; exact .inr (.inl ⟨vs, h1, by rw [isEmpty_len h2.len]⟩)
  | dct ks vs => cases e
  | klst xs => cases e
  | fn i => cases e
  | ty n => cases e
  | cls i => cases e
/-- sizes of what is tracked -/
def Sz (K : PySem.W.Frag) (H : Hp) : Prop := (∀ a vs, SqL K H a vs → vs.length ≤ sizeLine) ∧ ∀ a vs, SqT K H a vs → vs.length ≤ sizeLine
theorem Inv_sz {pins : List (Addr × Obj)} {s : Shared} (I : Inv X pins σ H s) : Sz X.K H := ⟨fun a vs h => let ⟨_, _, _, z⟩ := I.list h; z, fun a vs h => let ⟨_, _, _, z⟩ := I.tuple h; z⟩
theorem PE_sz {e : Expr} {t : TE} (h : PE X e t) : PE X e (fun σ H Q => t σ H fun v H' => Sz X.K H' → Q v H') :=
  ⟨fun p s σ H Q I q => thn (h.run p s σ H _ I q) fun u s' ⟨v, H', I', r, k⟩ => ⟨v, H', I', r, k (Inv_sz I')⟩⟩
theorem pi_v {e : Expr} {f : Env → Store → R Val} (hG : G.K = X.K) (h : PE X e (tI G W f)) (tg : Expr) : PI X tg e (tIt G W (Sm.v f).it) := by
  refine PI_imp (PI_or (pi_list (PE_sz h)) (pi_tup (PE_sz h))) fun σ H Q ⟨M, ρ, E, S, hE, hS, g⟩ => ?_
  have g1 := Got.bind g
  cases em : f E S with
  | no => rw [em] at g1; exact g1.elim
  | ex c a S' => exact .inl ⟨M, ρ, E, S, hE, hS, by rw [em] at g1 ⊢; exact g1⟩
  | ok v S' =>
    rw [em] at g1
    obtain ⟨xs, ex, q⟩ := of_some (show Got G W M σ ρ S H (R.of (v.dat.bind itemsOf) S') _ from g1)
    cases ed : v.dat with
    | none => rw [ed] at ex; cases ex
    | some d =>
      rw [ed] at ex
      cases d with
      | lst ys =>
        cases ex
        refine .inl ⟨M, ρ, E, S, hE, hS, ?_⟩
        rw [em]
        intro u H' t o z
        obtain ⟨a, vs, rfl, h1, n, h2⟩ := (o.ar.dat ed).listR
        exact ⟨a, rfl, ⟨vs, .inl h1⟩, q _ H' t o.sim (hG ▸ itOk_list (z.1 a vs (.inl h1)) (.inl ⟨h1, n⟩) h2)⟩
      | klst ys =>
        cases ex
        refine .inl ⟨M, ρ, E, S, hE, hS, ?_⟩
        rw [em]
        intro u H' t o z
        obtain ⟨a, vs, rfl, h1, h2⟩ := (o.ar.dat ed).klstR
        exact ⟨a, rfl, ⟨vs, hG ▸ h1.sq⟩, q _ H' t o.sim (hG ▸ itOk_list (z.1 a vs (hG ▸ h1.sq)) h1 h2)⟩
      | tup ys =>
        cases ex
        refine .inr ⟨M, ρ, E, S, hE, hS, ?_⟩
        rw [em]
        intro u H' t o z
        obtain ⟨a, vs, rfl, h1, h2, h3⟩ := (o.ar.dat ed).tupR
        exact ⟨a, rfl, ⟨vs, hG ▸ h1⟩, q _ H' t o.sim (hG ▸ itOk_tup (z.2 a vs (hG ▸ h1)) h3 h2)⟩
      | _ => cases ex
/-- an expression of any kind: as a value it is enough -/
theorem sok_v {e : Expr} {p : Bool} {f : Env → Store → R Val} (hG : G.K = X.K) (h : PE X e (tI G W f)) (he : ∀ whole, isTrue e X.env whole = (do let v ← whole; standAt e.pos; holding [v] (truthy v))) : Sok G W X e (.v f) p := by
  refine ⟨h, ?_, fun tg _ => pi_v hG h tg⟩
  · refine PT_imp (pt_truth h he) fun σ H Q ⟨M, ρ, E, S, hE, hS, g⟩ => ⟨M, ρ, E, S, hE, hS, (Got.bind g).imp fun x S' g v H' t o => ?_⟩
    obtain ⟨b, eb, q⟩ := of_some g
    have hs := o.sim
    cases hp : x.peek S' with
    | none => rw [hp] at eb; cases eb
    | some d =>
      rw [hp] at eb
      have tr := o.ar.peek hs hp
      exact ⟨b, hG ▸ tr.tru eb, q H' t hs⟩
end
end Mi

set_option maxHeartbeats 4000000
/-! operations by values -/
namespace Mi
open PySem PySem.Spec PyProof.Rows L2

/-- what an operation gives -/
def Res (G : Gb) (H : Hp) (N : Addr → Prop) (w : V) (H' : Hp) : Val → Prop
  | .d z => Same H H' ∧ DR G H' N w z
  | .own c => ∃ p, w = .ref p ∧ H p = none ∧ c.lives ∧ Same H H' ∧ CellR G H' (And1 N p) p c
  | _ => False
abbrev Fit (H : Hp) (N : Addr → Prop) : Prop := ∀ a, N a → H a ≠ none
section
variable (G : Gb)
def rD1 (f : D → Option Val) : V → Hp → VK → Prop := fun x H Q => ∃ N d r, Fit H N ∧ TR G H N x d ∧ f d = some r ∧ ∀ w H', Res G H N w H' r → Q w H'
def rD2 (f : D → D → Option Val) : R2 := fun x y H Q => ∃ N d e r, Fit H N ∧ TR G H N x d ∧ TR G H N y e ∧ f d e = some r ∧ ∀ w H', Res G H N w H' r → Q w H'
def rDn (f : List D → Option Val) : List V → Hp → VK → Prop := fun xs H Q => ∃ N ds r, Fit H N ∧ TRs G H N xs ds ∧ f ds = some r ∧ ∀ w H', Res G H N w H' r → Q w H'
end
section
variable {G : Gb} {H H' : Hp} {N N' M : Addr → Prop} {ρ : List Addr} {S : Store}
theorem CellR.mono (h : Same H H') (n : ∀ a, N' a → N a ∨ H a = none) {a : Addr} : ∀ {c : Cell}, CellR G H N a c → CellR G H' N' a c
  | .lst _, ⟨vs, e, r⟩ => ⟨vs, h _ _ e, DRs.mono (fun a o e _ => h a o e) n _ r⟩
  | .dct _ _, ⟨us, e, z, r⟩ => ⟨us, h _ _ e, z, DRs.mono (fun a o e _ => h a o e) n _ r⟩
  | .gone, _ => trivial
theorem Sim.mono {p : Addr} (h : Same H H') (hp : H p = none) (f : H' p ≠ none) (s : Sim G M H ρ S) : Sim G (And1 M p) H' ρ S :=
  ⟨s.len, s.uni, fun l a c e1 e2 => (s.cell l a c e1 e2).mono h fun a z => (av_and.mp z).imp id fun q => by rw [q]; exact hp, (s.same h).all, fun a z => z.elim (fun z => same_there h (s.apart a z)) fun z => by rw [z]; exact f,
    fun l a e z => z.elim (s.ap l a e) fun z => s.all l a e (by rw [z]; exact hp)⟩
theorem Res.out {w : V} {r : Val} (s : Sim G M H ρ S) (h : Res G H (Av M ρ S) w H' r) : Step ρ S H S H' ∧ Out G M H ρ S w H' r := by
  cases r with
  | d z => exact ⟨.same h.1, s.same h.1, .d h.2⟩
  | own c =>
    obtain ⟨p, e, hp, l, sm, r⟩ := h
    have r : CellR G H' (Av (And1 M p) ρ S) p c := r.less fun a z => av_and.mp z
    refine ⟨.same sm, p, e, hp, fun z => s.fit p z hp, fun i hi => s.all i p hi hp, l, s.mono sm hp ?_, r⟩
    cases c with
    | lst xs => obtain ⟨vs, h1, _⟩ := r; rw [h1]; simp
    | dct ks vs => obtain ⟨us, h1, _⟩ := r; rw [h1]; simp
    | gone => exact l.elim
  | ref l => exact h.elim
  | err c a => exact h.elim
/-- a new list, tuple -/
theorem same_upd {p : Addr} {o : HO} (h : H p = none) : Same H (upd H p o) := fun b x e => by rw [upd_ne (ne_of_none e h)]; exact e
theorem Res.lst {p : Addr} {vs : List V} {xs : List D} (h : H p = none) (r : DRs G H N vs xs) : Res G H N (.ref p) (upd H p (.lst vs)) (.own (.lst xs)) :=
  ⟨p, rfl, h, trivial, same_upd h, vs, upd_same, DRs.mono (fun a o e _ => same_upd h a o e) (fun a z => z.imp id fun q => by rw [q]; exact h) _ r⟩
theorem Res.tup {p : Addr} {vs : List V} {xs : List D} (f : Fit H N) (h : H p = none) (r : DRs G H N vs xs) : Res G H N (.ref p) (upd H p (.tup vs)) (.d (.tup xs)) :=
  ⟨same_upd h, .tup (.inl upd_same) (fun z => f p z h) (r.same (same_upd h))⟩
theorem Res.val {w : V} {z : D} (h : DR G H N w z) : Res G H N w H (.d z) := ⟨Same.refl _, h⟩
end

section
variable {G : Gb} {X : Cx}
/-! ### + - * // % ** -/
theorem op_catRd : OpR X (binaryOp .Add) (fun x y H Q => ∃ l b xs zs, x = .ref l ∧ y = .ref b ∧ Rd H l (.lst xs) ∧ Rd H b (.lst zs) ∧ xs.length + zs.length ≤ sizeLine ∧ ∀ p, H p = none → Q (.ref p) (upd H p (.lst (xs ++ zs)))) := by
  intro pins s σ H x y v u Q I rx ry h
  obtain ⟨l, b, xs, zs, rfl, rfl, h1, h2, hz, q⟩ := h
  cases rx
  cases ry
  obtain ⟨z1, is1, n1, r1, e1⟩ := h1.ok I.hok
  obtain ⟨z2, is2, n2, r2, e2⟩ := h2.ok I.hok
  have k1 := r1.length
  have k2 := r2.length
  refine PySem.P.add_list e1 e2 ?_ (by simp only [List.size_toArray]; omega)
  have ea : is1.toArray ++ is2.toArray = (is1 ++ is2).toArray := by simp
  rw [ea]
  exact ⟨.ref _, _, I.lnew (t' := s.toks) (r1.append r2) (by rw [List.length_append]; omega), rfl, q _ I.fresh⟩
theorem none_some {α : Type} {a : α} {P : Prop} (h : none = some a) : P := nomatch h
theorem op_addD (hG : G.K = X.K) : OpR X (binaryOp .Add) (rD2 G (binD .Add)) := by
  intro pins s σ H x y v u Q I rx ry ⟨N, d, e, r, f, tx, ty, er, q⟩
  cases d <;> cases e <;> first | exact none_some er | skip
  · rename_i i j
    cases er
    rw [tx.int] at rx
    rw [ty.int] at ry
    exact op_add pins s σ H _ _ v u Q I rx ry ⟨i, j, rfl, rfl, q _ _ (.val (.int _))⟩
  · rename_i i j
    obtain ⟨z, er⟩ := of_if (show (if i.length + j.length ≤ sizeLine then some (Val.d (.str (i ++ j))) else none) = some r from er)
    subst er
    rw [tx.str] at rx
    rw [ty.str] at ry
    exact op_add_str pins s σ H _ _ v u Q I rx ry ⟨i, j, rfl, rfl, z, q _ _ (.val (.str _))⟩
  · rename_i xs ys
    obtain ⟨z, er⟩ := of_if (show (if xs.length + ys.length ≤ sizeLine then some (Val.own (.lst (xs ++ ys))) else none) = some r from er)
    subst er
    obtain ⟨a, vs, rfl, h1, r1⟩ := tx.listR
    obtain ⟨b, us, rfl, h2, r2⟩ := ty.listR
    refine op_catRd pins s σ H _ _ v u Q I rx ry ⟨a, b, vs, us, rfl, rfl, h1, h2, by rw [r1.len, r2.len]; exact z, fun p hp => q _ _ (.lst hp (r1.append r2))⟩
  · rename_i xs ys
    obtain ⟨z, er⟩ := of_if (show (if xs.length + ys.length ≤ sizeLine then some (Val.d (.tup (xs ++ ys))) else none) = some r from er)
    subst er
    cases tx with
    | dr tx =>
    cases ty with
    | dr ty =>
    obtain ⟨a, vs, rfl, h1, r1, _⟩ := tx.tupR
    obtain ⟨b, us, rfl, h2, r2, _⟩ := ty.tupR
    have l1 := r1.len
    have l2 := r2.len
    refine op_catA pins s σ H _ _ v u Q I rx ry ⟨a, b, vs, us, rfl, rfl, hG ▸ h1, hG ▸ h2, by rw [l1, l2]; exact z, fun e => ?_, fun _ e => ?_, fun _ _ p hp => q _ _ (.tup f hp (r1.append r2))⟩
    · rw [e] at l1
      have e2 : xs = [] := List.length_eq_zero_iff.mp l1.symm
      subst e2
      exact q _ _ (.val ty)
    · rw [e] at l2
      have e2 : ys = [] := List.length_eq_zero_iff.mp l2.symm
      subst e2
      rw [List.append_nil] at q
      exact q _ _ (.val tx)
theorem op_subD : OpR X (binaryOp .Sub) (rD2 G (binD .Sub)) := by
  intro pins s σ H x y v u Q I rx ry ⟨N, d, e, r, f, tx, ty, er, q⟩
  cases d <;> cases e <;> first | exact none_some er | skip
  cases er
  rw [tx.int] at rx
  rw [ty.int] at ry
  exact op_sub pins s σ H _ _ v u Q I rx ry ⟨_, _, rfl, rfl, q _ _ (.val (.int _))⟩
theorem op_repRd : OpR X (binaryOp .Mult) (fun x y H Q => ∃ l k xs, x = .ref l ∧ y = .int k ∧ Rd H l (.lst xs) ∧ -(2 ^ 63) ≤ k ∧ k < 2 ^ 63 ∧ xs.length * k.toNat ≤ sizeLine ∧
    ∀ p, H p = none → Q (.ref p) (upd H p (.lst (List.replicate k.toNat xs).flatten))) := by
  intro pins s σ H x y v u Q I rx ry h
  obtain ⟨l, k, xs, rfl, rfl, hH, h1, h2, hz, q⟩ := h
  cases rx
  obtain ⟨tk, rfl⟩ := ry
  obtain ⟨zl, is1, m, r1, eo⟩ := hH.ok I.hok
  have kl := r1.length
  have len1 : is1.toArray.size * k.toNat ≤ sizeLine := by simp only [List.size_toArray]; rw [← kl]; exact hz
  have cap1 : ¬ is1.toArray.size * k.toNat > (2 ^ 63 - 1) / 8 := by
    have line : (sizeLine : Nat) ≤ (2 ^ 63 - 1) / 8 := by decide
    omega
  have fit1 : ¬ (!Builtin.List.listFitsIndex k) = true := by rw [fitsIndex_both h1 h2]; decide
  have long1 : ¬ Builtin.List.listTooLong (is1.toArray.size * k.toNat) = true := by rw [notLongL len1]; decide
  have new1 : List.foldl (fun a b => a ++ b) #[] (List.replicate (if is1.toArray.isEmpty = true then 0 else k.toNat) is1.toArray) = (List.replicate k.toNat is1).flatten.toArray := by
    have flat : ∀ c : Nat, List.foldl (fun a b => a ++ b) #[] (List.replicate c is1.toArray) = (List.replicate c is1).flatten.toArray := fun c => by
      have z := foldl_rep is1 c []
      rw [List.nil_append] at z
      exact z
    rw [flat]
    cases is1 with
    | nil => simp
    | cons a r' => rw [if_neg (by simp)]
  have here : s.TypeIs (.ref l) "list" := ⟨_, eo, rfl⟩
  refine wpAny_binaryOp_repeat_ref (T := "list") (U := "int") (by decide) here (fun s' => typeIs_int s' k tk) noFill_list_mul
    F.fills_int_mul F.slot_int_rmul repeat_list F.slot_int_index.lookup (call_meets F.slot_int_rmul (typeIs_int s k tk) F.entry_int_rmul (F.args_int_rmul_2 _ _) (int___rmul___int_list k tk l is1.toArray m) ⟨eo, rfl, here, ?_⟩)
  refine call_meets F.slot_list_mul here F.entry_list_mul (F.args_list_mul_2 _ _) (AutoListH.list___mul___list_int_3 l is1.toArray m k tk fit1 cap1 long1) ⟨eo, ?_⟩
  rw [new1]
  exact ⟨.ref _, _, I.lnew (t' := s.toks) (r1.rep k.toNat) (by rw [PyProof.Rows.lm_len_rep_flat, Nat.mul_comm]; exact hz), rfl, q _ I.fresh⟩
theorem foldl_repN (its : List Nat) : ∀ (k : Nat) (acc : List Nat), List.foldl (fun a b => a ++ b) acc.toArray (List.replicate k its.toArray) = (acc ++ (List.replicate k its).flatten).toArray
  | 0, acc => by simp
  | k + 1, acc => by
    rw [List.replicate_succ, List.foldl_cons, List.replicate_succ, List.flatten_cons, ← List.append_assoc, ← foldl_repN its k (acc ++ its)]
    congr 1
    simp
theorem op_repStr {x : Str} {j : Int} {u v : Value} {pins : List (Addr × Obj)} {s : Shared} {σ : L2.St} {H : Hp} {Q : VK} (I : Inv X pins σ H s) (rx : RelV (.str x) v) (ry : RelV (.int j) u) (h1 : 2 ≤ j) (h2 : j < 2 ^ 31) (h3 : 1 ≤ x.length) (h4 : x.length * j.toNat ≤ sizeLine)
    (q : Q (.str ⟨(List.replicate j.toNat x.cps.toList).flatten.toArray⟩) H) : wpAny (model X.prog X.w) X.A (binaryOp .Mult v u) (EP X pins σ Q) X.xe s := by
  obtain ⟨t, rfl⟩ := rx
  obtain ⟨t2, rfl⟩ := ry
  have e1 : ¬ j < 1 := by omega
  have e2 : (j == 1 || x.length == 0) = false := by
    rw [Bool.or_eq_false_iff]
    exact ⟨by rw [beq_eq_false_iff_ne]; omega, by rw [beq_eq_false_iff_ne]; omega⟩
  have tl : PySem.Builtin.Str.tooLong (x.length * j.toNat) = false := by
    unfold PySem.Builtin.Str.tooLong
    simpa using h4
  have line := sizeLine_eq
  have ej : ((j.toNat : Nat) : Int) = j := Int.toNat_of_nonneg (by omega)
  refine PySem.P.mul_str ?_ (fun _ _ => ?_) (fun _ _ => tl) ?_
  · have a1 : ¬ j < -(2 ^ 63 : Int) := by omega
    have a2 : ¬ j ≥ 2 ^ 63 := by omega
    rw [decide_eq_false a1, decide_eq_false a2]; rfl
  · have hx : (x.length : Int) ≤ 16777216 := by
      have : x.length * 1 ≤ x.length * j.toNat := Nat.mul_le_mul_left _ (by omega)
      omega
    have : (16777216 : Int) ≤ (2 ^ 63 - 1) / j := by
      rw [Int.le_ediv_iff_mul_le (by omega)]
      omega
    omega
  · rw [if_neg e1, e2, if_neg (by decide)]
    have flat : List.foldl (fun a b => a ++ b) #[] (List.replicate j.toNat x.cps) = (List.replicate j.toNat x.cps.toList).flatten.toArray := by
      have z := foldl_repN x.cps.toList j.toNat []
      rw [List.nil_append] at z
      exact z
    rw [flat]
    refine ⟨?_, .str _, H, I.tok _, ⟨_, rfl⟩, q⟩
    have : (Str.mk (List.replicate j.toNat x.cps.toList).flatten.toArray).length = x.length * j.toNat := by
      show (List.replicate j.toNat x.cps.toList).flatten.toArray.size = _
      rw [List.size_toArray, List.length_flatten, List.map_replicate, List.sum_replicate_nat]
      show _ * x.cps.toList.length = x.cps.size * _
      rw [Array.length_toList, Nat.mul_comm]
    simpa [this] using h4
theorem op_mulD : OpR X (binaryOp .Mult) (rD2 G (binD .Mult)) := by
  intro pins s σ H x y v u Q I rx ry ⟨N, d, e, r, f, tx, ty, er, q⟩
  by_cases hs : ∃ x j, d = .str x ∧ e = .int j
  · obtain ⟨x, j, rfl, rfl⟩ := hs
    obtain ⟨z, er⟩ := of_if (show (if (decide (2 ≤ j) && decide (j < 2 ^ 31) && decide (1 ≤ x.length) && decide (x.length * j.toNat ≤ sizeLine)) = true then some (Val.d (.str ⟨(List.replicate j.toNat x.cps.toList).flatten.toArray⟩)) else none) = some r from er)
    subst er
    simp only [Bool.and_eq_true, decide_eq_true_eq] at z
    rw [tx.str] at rx
    rw [ty.int] at ry
    exact op_repStr I rx ry z.1.1.1 z.1.1.2 z.1.2 z.2 (q _ _ (.val (.str _)))
  cases d <;> cases e <;> first | exact none_some er | exact absurd ⟨_, _, rfl, rfl⟩ hs | skip
  · rename_i i j
    obtain ⟨z, er⟩ := of_if (show (if cmulB i j = true then some (Val.d (.int (i * j))) else none) = some r from er)
    subst er
    rw [tx.int] at rx
    rw [ty.int] at ry
    exact op_mulW pins s σ H _ _ v u Q I rx ry ⟨i, j, rfl, rfl, (of_decide_eq_true z : i.natAbs.log2 + j.natAbs.log2 < 1000000), q _ _ (.val (.int _))⟩
  · rename_i xs j
    obtain ⟨z, er⟩ := of_if (show (if (decide (-(2 ^ 63) ≤ j) && decide (j < 2 ^ 63) && decide (xs.length * j.toNat ≤ sizeLine)) = true then some (Val.own (.lst (List.replicate j.toNat xs).flatten)) else none) = some r from er)
    subst er
    simp only [Bool.and_eq_true, decide_eq_true_eq] at z
    obtain ⟨a, vs, rfl, h1, r1⟩ := tx.listR
    rw [ty.int] at ry
    exact op_repRd pins s σ H _ _ v u Q I rx ry ⟨a, j, vs, rfl, rfl, h1, z.1.1, z.1.2, by rw [r1.len]; exact z.2, fun p hp => q _ _ (.lst hp (r1.rep _))⟩
theorem op_fdivD : OpR X (binaryOp .FloorDiv) (rD2 G (binD .FloorDiv)) := by
  intro pins s σ H x y v u Q I rx ry ⟨N, d, e, r, f, tx, ty, er, q⟩
  cases d <;> cases e <;> first | exact none_some er | skip
  rename_i i j
  obtain ⟨z, er⟩ := of_if (show (if cdivB j = true then some (Val.d (.int (i / j))) else none) = some r from er)
  subst er
  simp only [cdivB, Bool.and_eq_true, decide_eq_true_eq] at z
  rw [tx.int] at rx
  rw [ty.int] at ry
  exact op_fdivW pins s σ H _ _ v u Q I rx ry ⟨i, j, rfl, rfl, z, q _ _ (.val (.int _))⟩
theorem op_modD : OpR X (binaryOp .Mod) (rD2 G (binD .Mod)) := by
  intro pins s σ H x y v u Q I rx ry ⟨N, d, e, r, f, tx, ty, er, q⟩
  cases d <;> cases e <;> first | exact none_some er | skip
  rename_i i j
  obtain ⟨z, er⟩ := of_if (show (if 0 < j then some (Val.d (.int (i % j))) else none) = some r from er)
  subst er
  rw [tx.int] at rx
  rw [ty.int] at ry
  exact op_mod pins s σ H _ _ v u Q I rx ry ⟨i, j, rfl, rfl, z, q _ _ (.val (.int _))⟩
theorem op_powD : OpR X (binaryOp .Pow) (rD2 G (binD .Pow)) := by
  intro pins s σ H x y v u Q I rx ry ⟨N, d, e, r, f, tx, ty, er, q⟩
  cases d <;> cases e <;> first | exact none_some er | skip
  rename_i i j
  obtain ⟨z, er⟩ := of_if (show (if cpowB i j = true then some (Val.d (.int (i ^ j.toNat))) else none) = some r from er)
  subst er
  simp only [cpowB, Bool.and_eq_true, decide_eq_true_eq] at z
  rw [tx.int] at rx
  rw [ty.int] at ry
  exact op_pow pins s σ H _ _ v u Q I rx ry ⟨i, j, rfl, rfl, ⟨z.1.1, z.1.2, z.2⟩, q _ _ (.val (.int _))⟩
theorem op_binD (hG : G.K = X.K) : ∀ op, OpR X (binaryOp op) (rD2 G (binD op))
  | .Add => op_addD hG
  | .Sub => op_subD
  | .Mult => op_mulD
  | .FloorDiv => op_fdivD
  | .Mod => op_modD
  | .Pow => op_powD
  | .MatMult | .Div | .LShift | .RShift | .BitOr | .BitXor | .BitAnd => by
    intro pins s σ H x y v u Q I rx ry ⟨N, d, e, r, f, tx, ty, er, q⟩
    cases d <;> cases e <;> exact none_some er
end
end Mi

set_option maxHeartbeats 4000000
/-! comparisons, places, slices by values -/
namespace Mi
open PySem PySem.Spec PyProof.Rows L2
section
variable {G : Gb} {X : Cx} {H : Hp} {N : Addr → Prop}
mutual
theorem DR.dp : ∀ (x : D) {v : V} {p : PyData}, DR G H N v x → x.py = some p → Dp G.K H v p
  | .non, _, _, .non, e => by cases e; exact .non
  | .bl _, _, _, .bl b, e => by cases e; exact .bl b
  | .int _, _, _, .int i, e => by cases e; exact .int i
  | .str _, _, _, .str s, e => by cases e; exact .str s
  | .lst xs, _, _, .lst h _ r, e => by
    obtain ⟨ps, e1, e2⟩ := Option.map_eq_some_iff.mp (show (pys xs).map PyData.list = some _ from e)
    subst e2
    exact .lst (.inl h) (DRs.dp xs r e1)
  | .tup xs, _, _, .tup h _ r, e => by
    obtain ⟨ps, e1, e2⟩ := Option.map_eq_some_iff.mp (show (pys xs).map PyData.tuple = some _ from e)
    subst e2
    exact .tup (.inl h) (DRs.dp xs r e1)
  | .tup xs, _, _, .tupK h r, e => by
    obtain ⟨ps, e1, e2⟩ := Option.map_eq_some_iff.mp (show (pys xs).map PyData.tuple = some _ from e)
    subst e2
    exact .tup (.inr h) (DRs.dp xs r e1)
  | .dct _ _, _, _, _, e => by cases e
  | .klst _, _, _, _, e => by cases e
  | .fn _, _, _, _, e => by cases e
  | .ty _, _, _, _, e => by cases e
  | .cls _, _, _, _, e => by cases e
theorem DRs.dp : ∀ (xs : List D) {vs : List V} {ps : List PyData}, DRs G H N vs xs → pys xs = some ps → DpAll G.K H vs ps
  | [], _, _, .nil, e => by cases e; exact .nil
  | x :: xs, _, _, .cons h r, e => by
    obtain ⟨p, e1, e2⟩ := Option.bind_eq_some_iff.mp (show x.py.bind (fun y => (pys xs).map (y :: ·)) = some _ from e)
    obtain ⟨ps, e3, e4⟩ := Option.map_eq_some_iff.mp e2
    subst e4
    exact .cons (DR.dp x h e1) (DRs.dp xs r e3)
end
theorem TR.dp {x : D} {v : V} {p : PyData} (h : TR G H N v x) (e : x.py = some p) : Dp G.K H v p := by
  cases h with
  | dr h => exact h.dp _ e
  | lst h r =>
    rename_i xs
    obtain ⟨ps, e1, e2⟩ := Option.map_eq_some_iff.mp (show (pys xs).map PyData.list = some _ from e)
    subst e2
    exact .lst (.inl (.inl h)) (DRs.dp xs r e1)
  | dct h z r => cases e
theorem strsD_some {a b : D} {k : Bool} (h : strsD a b = some k) : ∃ x y, a = .str x ∧ b = .str y ∧ k = decide (x = y) := by
  cases a <;> cases b <;> first | (cases h; done) | (cases h; exact ⟨_, _, rfl, rfl, rfl⟩)
theorem eqD_some {a b : D} {k : Bool} (h : eqD a b = some k) : (∃ x y, a = .str x ∧ b = .str y ∧ k = decide (x = y)) ∨ ∃ p q, a.py = some p ∧ b.py = some q ∧ SeqAt.shaped p = true ∧ SeqAt.shaped q = true ∧ k = PyData.eqv p q := by
  unfold eqD at h
  cases z : strsD a b with
  | some k' => rw [z] at h; cases h; exact .inl (strsD_some z)
  | none =>
  rw [z] at h
  right
  have h : (a.py.bind fun x => b.py.bind fun y => if SeqAt.shaped x && SeqAt.shaped y then some (PyData.eqv x y) else none) = some k := h
  obtain ⟨p, e1, h⟩ := Option.bind_eq_some_iff.mp h
  obtain ⟨q, e2, h⟩ := Option.bind_eq_some_iff.mp h
  obtain ⟨z, h⟩ := of_if h
  rw [Bool.and_eq_true] at z
  exact ⟨p, q, e1, e2, z.1, z.2, h.symm⟩
theorem cmpV_some {op : CmpOp} {d e : D} {r : Val} (h : cmpV op d e = some r) : ∃ k, cmpD op d e = some k ∧ r = .d (.bl k) := by
  obtain ⟨k, h1, h2⟩ := Option.map_eq_some_iff.mp h
  exact ⟨k, h1, h2.symm⟩
theorem op_eqDD (hG : G.K = X.K) (hu : X.A.units + 64 < cLine) : OpR X (compareOp .Eq) (rD2 G (cmpV .Eq)) := by
  intro pins s σ H x y v u Q I rx ry ⟨N, d, e, r, f, tx, ty, er, q⟩
  obtain ⟨k, h, rfl⟩ := cmpV_some er
  rcases eqD_some (show eqD d e = some k by cases d <;> exact h) with ⟨x', y', rfl, rfl, rfl⟩ | ⟨p, p2, e1, e2, s1, s2, rfl⟩
  · rw [tx.str] at rx
    rw [ty.str] at ry
    refine op_eq pins s σ H _ _ v u Q I rx ry ⟨rfl, ?_⟩
    have e : decide (V.str x' = V.str y') = decide (x' = y') := by simp
    rw [e]
    exact q _ _ (.val (.bl _))
  exact op_eqD hu pins s σ H x y v u Q I rx ry ⟨p, p2, hG ▸ tx.dp e1, hG ▸ ty.dp e2, s1, s2, q _ _ (.val (.bl _))⟩
theorem op_neDD (hG : G.K = X.K) (hu : X.A.units + 64 < cLine) : OpR X (compareOp .NotEq) (rD2 G (cmpV .NotEq)) := by
  intro pins s σ H x y v u Q I rx ry ⟨N, d, e, r, f, tx, ty, er, q⟩
  obtain ⟨k, h, rfl⟩ := cmpV_some er
  obtain ⟨k', h2, rfl⟩ := Option.map_eq_some_iff.mp (show (eqD d e).map (!·) = some k by cases d <;> exact h)
  rcases eqD_some h2 with ⟨x', y', rfl, rfl, rfl⟩ | ⟨p, p2, e1, e2, s1, s2, rfl⟩
  · rw [tx.str] at rx
    rw [ty.str] at ry
    refine op_ne pins s σ H _ _ v u Q I rx ry ⟨rfl, ?_⟩
    have e : decide (V.str x' = V.str y') = decide (x' = y') := by simp
    rw [e]
    exact q _ _ (.val (.bl _))
  exact op_neD hu pins s σ H x y v u Q I rx ry ⟨p, p2, hG ▸ tx.dp e1, hG ▸ ty.dp e2, s1, s2, q _ _ (.val (.bl _))⟩
theorem ordD_some {f : PyData → PyData → Bool} {d e : D} {k : Bool} (h : ordD f d e = some k) : ∃ p q, d.py = some p ∧ e.py = some q ∧ PySem.W.alike p q = true ∧ p ≠ .none ∧ SeqAt.shaped p = true ∧ k = f p q := by
  obtain ⟨p, e1, h⟩ := Option.bind_eq_some_iff.mp h
  obtain ⟨q, e2, h⟩ := Option.bind_eq_some_iff.mp h
  obtain ⟨z, h⟩ := of_if h
  simp only [Bool.and_eq_true] at z
  exact ⟨p, q, e1, e2, z.1.1.1, fun n => by rw [n] at z; exact absurd z.1.1.2 (by decide), z.1.2, h.symm⟩
theorem lt_two (d e : D) : (∃ i j, d = .int i ∧ e = .int j) ∨ cmpD .Lt d e = ordD PySem.W.dataLt d e := by
  cases d <;> cases e <;> first | exact .inr rfl | exact .inl ⟨_, _, rfl, rfl⟩
theorem op_ltDD (hG : G.K = X.K) (hu : X.A.units + 64 < cLine) : OpR X (compareOp .Lt) (rD2 G (cmpV .Lt)) := by
  intro pins s σ H x y v u Q I rx ry ⟨N, d, e, r, f, tx, ty, er, q⟩
  rcases lt_two d e with ⟨i, j, rfl, rfl⟩ | h
  · cases er
    rw [tx.int] at rx
    rw [ty.int] at ry
    exact op_lt pins s σ H _ _ v u Q I rx ry ⟨_, _, rfl, rfl, q _ _ (.val (.bl _))⟩
  · obtain ⟨k, h2, rfl⟩ := cmpV_some er
    rw [h] at h2
    obtain ⟨p, p2, e1, e2, al, nn, sh, rfl⟩ := ordD_some h2
    obtain ⟨as, r1⟩ := Dp.reads I p x v (hG ▸ tx.dp e1) rx
    obtain ⟨bs, r2⟩ := Dp.reads I p2 y u (hG ▸ ty.dp e2) ry
    exact PySem.W.lt_data r1 r2 al nn (SeqAt.room_of_shaped sh hu) ⟨.bl _, H, I, rfl, q _ _ (.val (.bl _))⟩
theorem le_two (d e : D) : (∃ i j, d = .int i ∧ e = .int j) ∨ cmpD .LtE d e = ordD (fun x y => !PySem.W.dataLt y x) d e := by
  cases d <;> cases e <;> first | exact .inr rfl | exact .inl ⟨_, _, rfl, rfl⟩
theorem op_leDD (hG : G.K = X.K) (hu : X.A.units + 64 < cLine) : OpR X (compareOp .LtE) (rD2 G (cmpV .LtE)) := by
  intro pins s σ H x y v u Q I rx ry ⟨N, d, e, r, f, tx, ty, er, q⟩
  rcases le_two d e with ⟨i, j, rfl, rfl⟩ | h
  · cases er
    rw [tx.int] at rx
    rw [ty.int] at ry
    exact op_le pins s σ H _ _ v u Q I rx ry ⟨_, _, rfl, rfl, q _ _ (.val (.bl _))⟩
  · obtain ⟨k, h2, rfl⟩ := cmpV_some er
    rw [h] at h2
    obtain ⟨p, p2, e1, e2, al, nn, sh, rfl⟩ := ordD_some h2
    obtain ⟨as, r1⟩ := Dp.reads I p x v (hG ▸ tx.dp e1) rx
    obtain ⟨bs, r2⟩ := Dp.reads I p2 y u (hG ▸ ty.dp e2) ry
    exact PySem.W.le_data r1 r2 al nn (SeqAt.room_of_shaped sh hu) ⟨.bl _, H, I, rfl, q _ _ (.val (.bl _))⟩
theorem gt_two (d e : D) : (∃ i j, d = .int i ∧ e = .int j) ∨ cmpD .Gt d e = ordD (fun x y => PySem.W.dataLt y x) d e := by
  cases d <;> cases e <;> first | exact .inr rfl | exact .inl ⟨_, _, rfl, rfl⟩
theorem op_gtDD (hG : G.K = X.K) (hu : X.A.units + 64 < cLine) : OpR X (compareOp .Gt) (rD2 G (cmpV .Gt)) := by
  intro pins s σ H x y v u Q I rx ry ⟨N, d, e, r, f, tx, ty, er, q⟩
  rcases gt_two d e with ⟨i, j, rfl, rfl⟩ | h
  · cases er
    rw [tx.int] at rx
    rw [ty.int] at ry
    exact op_gt pins s σ H _ _ v u Q I rx ry ⟨_, _, rfl, rfl, q _ _ (.val (.bl _))⟩
  · obtain ⟨k, h2, rfl⟩ := cmpV_some er
    rw [h] at h2
    obtain ⟨p, p2, e1, e2, al, nn, sh, rfl⟩ := ordD_some h2
    obtain ⟨as, r1⟩ := Dp.reads I p x v (hG ▸ tx.dp e1) rx
    obtain ⟨bs, r2⟩ := Dp.reads I p2 y u (hG ▸ ty.dp e2) ry
    exact PySem.W.gt_data r1 r2 al nn (SeqAt.room_of_shaped sh hu) ⟨.bl _, H, I, rfl, q _ _ (.val (.bl _))⟩
theorem ge_two (d e : D) : (∃ i j, d = .int i ∧ e = .int j) ∨ cmpD .GtE d e = ordD (fun x y => !PySem.W.dataLt x y) d e := by
  cases d <;> cases e <;> first | exact .inr rfl | exact .inl ⟨_, _, rfl, rfl⟩
theorem op_geDD (hG : G.K = X.K) (hu : X.A.units + 64 < cLine) : OpR X (compareOp .GtE) (rD2 G (cmpV .GtE)) := by
  intro pins s σ H x y v u Q I rx ry ⟨N, d, e, r, f, tx, ty, er, q⟩
  rcases ge_two d e with ⟨i, j, rfl, rfl⟩ | h
  · cases er
    rw [tx.int] at rx
    rw [ty.int] at ry
    exact op_ge pins s σ H _ _ v u Q I rx ry ⟨_, _, rfl, rfl, q _ _ (.val (.bl _))⟩
  · obtain ⟨k, h2, rfl⟩ := cmpV_some er
    rw [h] at h2
    obtain ⟨p, p2, e1, e2, al, nn, sh, rfl⟩ := ordD_some h2
    obtain ⟨as, r1⟩ := Dp.reads I p x v (hG ▸ tx.dp e1) rx
    obtain ⟨bs, r2⟩ := Dp.reads I p2 y u (hG ▸ ty.dp e2) ry
    exact PySem.W.ge_data r1 r2 al nn (SeqAt.room_of_shaped sh hu) ⟨.bl _, H, I, rfl, q _ _ (.val (.bl _))⟩
theorem TR.isNon {v : V} {x : D} (h : TR G H N v x) : isNon x = decide (v = .non) := by
  cases h with
  | dr h => cases h <;> rfl
  | lst h r => rfl
  | dct h z r => rfl
theorem op_isDD : OpR X (compareOp .Is) (rD2 G (cmpV .Is)) := by
  intro pins s σ H x y v u Q I rx ry ⟨N, d, e, r, f, tx, ty, er, q⟩
  cases e with
  | non =>
    have er : some (Val.d (.bl (isNon d))) = some r := by cases d <;> exact er
    cases er
    cases ty with
    | dr ty =>
    cases ty
    exact op_isN pins s σ H _ _ v u Q I rx ry ⟨rfl, by rw [← tx.isNon]; exact q _ _ (.val (.bl _))⟩
  | _ => cases d <;> exact none_some er
theorem op_isNotDD : OpR X (compareOp .IsNot) (rD2 G (cmpV .IsNot)) := by
  intro pins s σ H x y v u Q I rx ry ⟨N, d, e, r, f, tx, ty, er, q⟩
  cases e with
  | non =>
    have er : some (Val.d (.bl (!isNon d))) = some r := by cases d <;> exact er
    cases er
    cases ty with
    | dr ty =>
    cases ty
    exact op_notN pins s σ H _ _ v u Q I rx ry ⟨rfl, by rw [← tx.isNon]; exact q _ _ (.val (.bl _))⟩
  | _ => cases d <;> exact none_some er
theorem depth_in {p : PyData} {ps : List PyData} {u : Nat} (h1 : SeqAt.shaped p = true) (hu : u + 65 < cLine) : u + 1 + min (PyData.depthAll ps) p.depth < cLine := by
  unfold SeqAt.shaped at h1
  rw [Bool.and_eq_true] at h1
  have := of_decide_eq_true h1.2
  omega
theorem inD_some {x c : D} {k : Bool} (h : inD x c = some k) : ∃ p ps, x.py = some p ∧ SeqAt.shaped p = true ∧ PyData.canLayAll0 ps = true ∧ k = (ps.any fun z => PyData.eqv z p) ∧ (c.py = some (.list ps) ∨ c.py = some (.tuple ps)) := by
  unfold inD at h
  obtain ⟨p, e1, h⟩ := Option.bind_eq_some_iff.mp h
  cases c with
  | lst xs =>
    obtain ⟨ps, e2, h⟩ := Option.bind_eq_some_iff.mp h
    obtain ⟨z, h⟩ := of_if h
    rw [Bool.and_eq_true] at z
    have z2 := SeqAt.canLay_of_shaped z.2
    refine ⟨p, ps, e1, z.1, by simpa [PyData.canLay0] using z2, h.symm, .inl ?_⟩
    show (pys xs).map PyData.list = _
    rw [e2]; rfl
  | tup xs =>
    obtain ⟨ps, e2, h⟩ := Option.bind_eq_some_iff.mp h
    obtain ⟨z, h⟩ := of_if h
    rw [Bool.and_eq_true] at z
    have z2 := SeqAt.canLay_of_shaped z.2
    refine ⟨p, ps, e1, z.1, by simpa [PyData.canLay0] using z2, h.symm, .inr ?_⟩
    show (pys xs).map PyData.tuple = _
    rw [e2]; rfl
  | _ => cases h
theorem inS_some {x w : Str} {k : Bool} (h : inS x w = some k) : ∃ c, x = ⟨#[c]⟩ ∧ k = decide (c ∈ w.cps.toList) := by
  unfold inS at h
  split at h
  · rename_i c e
    cases h
    refine ⟨c, ?_, rfl⟩
    cases x with
    | mk a =>
      have e : a.toList = [c] := e
      have : a = #[c] := Array.toList_inj.mp e
      rw [this]
  · cases h
theorem op_inDD (hG : G.K = X.K) (hu : X.A.units + 65 < cLine) : OpR X (compareOp .In) (rD2 G (cmpV .In)) := by
  intro pins s σ H x y v u Q I rx ry ⟨N, d, e, r, f, tx, ty, er, q⟩
  obtain ⟨k, h, rfl⟩ := cmpV_some er
  by_cases hs : ∃ i j, d = .str i ∧ e = .str j
  · obtain ⟨i, j, rfl, rfl⟩ := hs
    obtain ⟨c, rfl, rfl⟩ := inS_some (show inS i j = some k from h)
    exact op_in_sign pins s σ H x y v u Q I rx ry ⟨c, j, tx.str, ty.str, q _ _ (.val (.bl _))⟩
  obtain ⟨p, ps, e1, s1, s2, rfl, e2⟩ := inD_some (show inD d e = some k by cases e <;> cases d <;> first | exact h | cases h | exact absurd ⟨_, _, rfl, rfl⟩ hs)
  obtain ⟨as, r1⟩ := Dp.reads I p x v (hG ▸ tx.dp e1) rx
  rcases e2 with e2 | e2
  · obtain ⟨bs, r2⟩ := Dp.reads I _ y u (hG ▸ ty.dp e2) ry
    exact SeqAt.in_list_reads r2 r1 s2 (SeqAt.canLay_of_shaped s1) (depth_in s1 hu) ⟨.bl _, H, I, rfl, q _ _ (.val (.bl _))⟩
  · obtain ⟨bs, r2⟩ := Dp.reads I _ y u (hG ▸ ty.dp e2) ry
    exact SeqAt.in_tuple_reads r2 r1 s2 (SeqAt.canLay_of_shaped s1) (depth_in s1 hu) ⟨.bl _, H, I, rfl, q _ _ (.val (.bl _))⟩
theorem op_notInDD (hG : G.K = X.K) (hu : X.A.units + 65 < cLine) : OpR X (compareOp .NotIn) (rD2 G (cmpV .NotIn)) := by
  intro pins s σ H x y v u Q I rx ry ⟨N, d, e, r, f, tx, ty, er, q⟩
  obtain ⟨k, h, rfl⟩ := cmpV_some er
  by_cases hs : ∃ i j, d = .str i ∧ e = .str j
  · obtain ⟨i, j, rfl, rfl⟩ := hs
    obtain ⟨k', h2, rfl⟩ := Option.map_eq_some_iff.mp (show (inS i j).map (!·) = some k from h)
    obtain ⟨c, rfl, rfl⟩ := inS_some h2
    exact op_notIn_sign pins s σ H x y v u Q I rx ry ⟨c, j, tx.str, ty.str, q _ _ (.val (.bl _))⟩
  obtain ⟨k', h2, rfl⟩ := Option.map_eq_some_iff.mp (show (inD d e).map (!·) = some k by cases e <;> cases d <;> first | exact h | cases h | exact absurd ⟨_, _, rfl, rfl⟩ hs)
  obtain ⟨p, ps, e1, s1, s2, rfl, e2⟩ := inD_some h2
  obtain ⟨as, r1⟩ := Dp.reads I p x v (hG ▸ tx.dp e1) rx
  rcases e2 with e2 | e2
  · obtain ⟨bs, r2⟩ := Dp.reads I _ y u (hG ▸ ty.dp e2) ry
    exact SeqAt.notIn_list_reads r2 r1 s2 (SeqAt.canLay_of_shaped s1) (depth_in s1 hu) ⟨.bl _, H, I, rfl, q _ _ (.val (.bl _))⟩
  · obtain ⟨bs, r2⟩ := Dp.reads I _ y u (hG ▸ ty.dp e2) ry
    exact SeqAt.notIn_tuple_reads r2 r1 s2 (SeqAt.canLay_of_shaped s1) (depth_in s1 hu) ⟨.bl _, H, I, rfl, q _ _ (.val (.bl _))⟩
theorem op_cmpD (hG : G.K = X.K) (hu : X.A.units + 65 < cLine) : ∀ op, OpR X (compareOp op) (rD2 G (cmpV op))
  | .Eq => op_eqDD hG (by omega)
  | .NotEq => op_neDD hG (by omega)
  | .Lt => op_ltDD hG (by omega)
  | .LtE => op_leDD hG (by omega)
  | .Gt => op_gtDD hG (by omega)
  | .GtE => op_geDD hG (by omega)
  | .Is => op_isDD
  | .IsNot => op_isNotDD
  | .In => op_inDD hG hu
  | .NotIn => op_notInDD hG hu

/-! ### places, slices -/
theorem atI_rel {vs : List V} {xs : List D} {i : Int} {x : D} (r : DRs G H N vs xs) (e : atI xs i = some x) : ∃ v, atI vs i = some v ∧ DR G H N v x := by
  unfold atI at e ⊢
  rw [r.len]
  obtain ⟨j, e1, e2⟩ := Option.bind_eq_some_iff.mp e
  obtain ⟨v, h1, h2⟩ := r.get e2
  exact ⟨v, by rw [e1]; exact h1, h2⟩
theorem look_rel {k : Key} : ∀ {ks : List Key} {us : List V} {vs : List D} {x : D}, ks.length = us.length → DRs G H N us vs → lookD k ks vs = some x → ∃ v, valV (ks.zip us) k = some v ∧ DR G H N v x
  | [], _, _, _, _, _, e => by unfold lookD at e; cases e
  | k' :: ks, _, _, _, _, .nil, e => by unfold lookD at e; cases e
  | k' :: ks, u :: us, v :: vs, x, l, .cons h r, e => by
    unfold lookD at e
    rw [List.zip_cons_cons]
    by_cases z : k' = k
    · rw [if_pos z] at e
      cases e
      exact ⟨u, valV_pos (p := (k', u)) z, h⟩
    · rw [if_neg z] at e
      rw [valV_neg (p := (k', u)) z]
      exact look_rel (ks := ks) (us := us) (vs := vs) (by simpa using l) r e
theorem asKey_some {y : D} {k : Key} {v : V} (h : TR G H N v y) (e : asKey y = some k) : v = kV k := by
  cases y with
  | int i => cases e; rw [h.int]; rfl
  | str i => cases e; rw [h.str]; rfl
  | _ => cases e
theorem ix_D (hG : G.K = X.K) (hu : X.A.units + 1 < cLine) : IxR X (rD2 G fun x y => (ixD x y).map .d) := by
  intro value slice pins s σ H x y v u Q I rx ry ⟨N, d, e, r, f, tx, ty, e0, q⟩ hs
  obtain ⟨z, er, rfl⟩ := Option.map_eq_some_iff.mp e0
  have fin : ∀ {w : V}, DR G H N w z → Q w H := fun h => q _ _ (.val h)
  cases d with
  | lst xs =>
    cases e with
    | int i =>
      obtain ⟨a, vs, rfl, h1, r1⟩ := tx.listR
      obtain ⟨w, e1, e2⟩ := atI_rel r1 (show atI xs i = some z from er)
      exact ix_list value slice pins s σ H _ _ v u Q I rx ry ⟨a, vs, i, w, rfl, ty.int, .inl h1, e1, fin e2⟩ hs
    | _ => cases er
  | klst xs =>
    cases e with
    | int i =>
      obtain ⟨a, vs, rfl, h1, r1⟩ := tx.klstR
      obtain ⟨w, e1, e2⟩ := atI_rel r1 (show atI xs i = some z from er)
      exact ix_list value slice pins s σ H _ _ v u Q I rx ry ⟨a, vs, i, w, rfl, ty.int, hG ▸ h1.sq, e1, fin e2⟩ hs
    | _ => cases er
  | tup xs =>
    cases e with
    | int i =>
      obtain ⟨a, vs, rfl, h1, r1⟩ := tx.tupR
      obtain ⟨w, e1, e2⟩ := atI_rel r1 (show atI xs i = some z from er)
      exact ix_tup value slice pins s σ H _ _ v u Q I rx ry ⟨a, vs, i, w, rfl, ty.int, hG ▸ h1, e1, fin e2⟩ hs
    | _ => cases er
  | str t =>
    cases e with
    | int i =>
      by_cases l : t.length ≤ sizeLine
      · have er : (if t.length ≤ sizeLine then (atI t.cps.toList i).map fun c => D.str ⟨#[c]⟩ else none) = some z := er
        rw [if_pos l] at er
        obtain ⟨c, e1, e2⟩ := Option.map_eq_some_iff.mp er
        subst e2
        exact ix_str value slice pins s σ H _ _ v u Q I rx ry ⟨t, i, c, tx.str, ty.int, l, e1, fin (.str _)⟩ hs
      · have er : (if t.length ≤ sizeLine then (atI t.cps.toList i).map fun c => D.str ⟨#[c]⟩ else none) = some z := er
        rw [if_neg l] at er
        cases er
    | _ => cases er
  | dct ks vs =>
    obtain ⟨k, e1, e2⟩ := Option.bind_eq_some_iff.mp (show (asKey e).bind (fun q => lookD q ks vs) = some z by cases e <;> exact er)
    have go : ∀ {a : Addr} {us : List V}, Rd H a (.dK (ks.zip us)) → ks.length = us.length → DRs G H N us vs → x = .ref a → wpAny (model X.prog X.w) X.A (subscriptTail value slice v u) (EP X pins σ Q) X.xe s := fun {a us} h l r1 ex => by
      subst ex
      obtain ⟨w, h1, h2⟩ := look_rel (ks := ks) (us := us) l r1 e2
      have g : DGet H a (kV k) (some w) := .inl ⟨_, k, h, rfl, h1.symm⟩
      rw [asKey_some ty e1] at ry
      cases rx
      exact tail_any (dict_typeIs I g) PySem.F.slot_dict_getitem.lookup (d_getItem hu I g ry fun w' s' I' rw' => ⟨w, H, I', rw', fin h2⟩) hs
    cases tx with
    | dr h => cases h with | dct h n l r1 => exact go h l r1 rfl
    | dct h l r1 => exact go (.inl h) l r1 rfl
  | _ => cases er
theorem cut_rel {vs : List V} {xs : List D} (lo hi : Option Int) (r : DRs G H N vs xs) : DRs G H N (cutV vs lo hi) (cutL xs lo hi) := by
  unfold cutV cutL
  rw [r.len]
  exact (r.drop _).take _
def rSlD (G : Gb) : V → Option Int → Option Int → Hp → VK → Prop := fun x lo hi H Q => ∃ N d r, Fit H N ∧ TR G H N x d ∧ slcD d lo hi = some r ∧ ∀ w H', Res G H N w H' r → Q w H'
theorem sl_D (hG : G.K = X.K) : SlR X (rSlD G) := by
  intro pins s σ H x v vl vu lo hi sl Q I rx hs pl pu ⟨N, d, r, f, tx, er, q⟩
  cases d with
  | lst xs =>
    cases er
    obtain ⟨a, vs, rfl, h1, r1⟩ := tx.listR
    exact sl_list pins s σ H _ v vl vu lo hi sl Q I rx hs pl pu ⟨a, vs, rfl, .inl h1, fun p hp => q _ _ (.lst hp (cut_rel lo hi r1))⟩
  | tup xs =>
    cases er
    cases tx with
    | dr tx =>
    obtain ⟨a, vs, rfl, h1, r1, _⟩ := tx.tupR
    refine sl_tupA pins s σ H _ v vl vu lo hi sl Q I rx hs pl pu ⟨a, vs, rfl, hG ▸ h1, fun ⟨e1, e2⟩ => ?_, fun _ p hp => q _ _ (.tup f hp (cut_rel lo hi r1))⟩
    have e3 : cutL xs lo hi = xs := by
      unfold cutL
      rw [← r1.len, e1, e2, List.drop_zero, Nat.sub_zero, r1.len]
      exact List.take_length
    rw [e3] at q
    exact q _ _ (.val tx)
  | klst xs =>
    cases er
    obtain ⟨a, vs, rfl, h1, r1⟩ := tx.klstR
    exact sl_list pins s σ H _ v vl vu lo hi sl Q I rx hs pl pu ⟨a, vs, rfl, hG ▸ h1.sq, fun p hp => q _ _ (.lst hp (cut_rel lo hi r1))⟩
  | str z =>
    obtain ⟨hz, er⟩ := of_if (show (if z.length ≤ sizeLine then some (Val.d (.str (L2.cutS z lo hi))) else none) = some r from er)
    subst er
    exact sl_str pins s σ H _ v vl vu lo hi sl Q I rx hs pl pu ⟨z, tx.str, hz, q _ _ (.val (.str _))⟩
  | _ => cases er
end
end Mi

set_option maxHeartbeats 4000000
/-! built-in functions by values -/
namespace Mi
open PySem PySem.Spec PyProof.Rows L2
def BI.ty : BI → Bool
  | .int | .list | .tuple | .bool | .str => true
  | _ => false
def BI.id : BI → String
  | .len => "len" | .abs => "abs" | .isinst => "isinstance" | .all => "all" | .any => "any" | .int => "int" | .list => "list" | .tuple => "tuple" | .sorted => "sorted"
  | .repr => "repr" | .min => "min" | .max => "max" | .sum => "sum" | .bool => "bool" | .str => "str"
def BI.val (b : BI) : Value := if b.ty then .type b.id else .builtin b.id
theorem BI.boot (b : BI) : bootBuiltins (Str.ofString b.id) = some b.val := by cases b <;> decide +kernel
theorem insI_perm (x : Int) : ∀ l : List Int, (insI x l).Perm (x :: l)
  | [] => .refl _
  | y :: r => by
    unfold insI
    by_cases h : x ≤ y
    · rw [if_pos h]
    · rw [if_neg h]
      exact ((insI_perm x r).cons y).trans (.swap x y r)
theorem insI_rise (x : Int) : ∀ l : List Int, l.Pairwise (· ≤ ·) → (insI x l).Pairwise (· ≤ ·)
  | [], _ => by unfold insI; exact .cons (by simp) .nil
  | y :: r, h => by
    unfold insI
    have h1 := List.pairwise_cons.mp h
    by_cases z : x ≤ y
    · rw [if_pos z]
      refine List.pairwise_cons.mpr ⟨fun a ha => ?_, h⟩
      rcases List.mem_cons.mp ha with e | e
      · rw [e]; exact z
      · exact Int.le_trans z (h1.1 a e)
    · rw [if_neg z]
      refine List.pairwise_cons.mpr ⟨fun a ha => ?_, insI_rise x r h1.2⟩
      rcases List.mem_cons.mp ((insI_perm x r).mem_iff.mp ha) with e | e
      · rw [e]; omega
      · exact h1.1 a e
theorem sortI_perm : ∀ l : List Int, (sortI l).Perm l
  | [] => .refl _
  | x :: r => by unfold sortI; exact (insI_perm x _).trans ((sortI_perm r).cons x)
theorem sortI_rise : ∀ l : List Int, (sortI l).Pairwise (· ≤ ·)
  | [] => .nil
  | x :: r => by unfold sortI; exact insI_rise x _ (sortI_rise r)
theorem sortI_same {a l : List Int} (p : a.Perm l) (h : a.Pairwise (· ≤ ·)) : a = sortI l :=
  (p.trans (sortI_perm l).symm).eq_of_pairwise (fun x y _ _ h1 h2 => Int.le_antisymm h1 h2) h (sortI_rise l)
section
variable {G : Gb} {X : Cx} {H : Hp} {N : Addr → Prop}
theorem DRs.ints : ∀ {vs : List V} {xs : List D} {ns : List Int}, DRs G H N vs xs → intsOf xs = some ns → vs = ns.map V.int
  | _, _, _, .nil, e => by cases e; rfl
  | _, x :: xs, _, .cons h r, e => by
    cases x with
    | int i =>
      obtain ⟨ns, e1, e2⟩ := Option.map_eq_some_iff.mp (show (intsOf xs).map (i :: ·) = some _ from e)
      subst e2
      cases h
      rw [r.ints e1]; rfl
    | _ => cases e
theorem DRs.bools : ∀ {vs : List V} {xs : List D} {ns : List Bool}, DRs G H N vs xs → boolsOf xs = some ns → vs = ns.map V.bl
  | _, _, _, .nil, e => by cases e; rfl
  | _, x :: xs, _, .cons h r, e => by
    cases x with
    | bl i =>
      obtain ⟨ns, e1, e2⟩ := Option.map_eq_some_iff.mp (show (boolsOf xs).map (i :: ·) = some _ from e)
      subst e2
      cases h
      rw [r.bools e1]; rfl
    | _ => cases e
theorem drs_ints : ∀ ns : List Int, DRs G H N (ns.map V.int) (ns.map D.int)
  | [] => .nil
  | n :: ns => .cons (.int n) (drs_ints ns)
theorem keyInts_map : ∀ {ks : List Key} {ns : List Int}, keyInts ks = some ns → ks = ns.map Sum.inl
  | [], _, e => by cases e; rfl
  | .inl i :: ks, _, e => by
    obtain ⟨ns, e1, e2⟩ := Option.map_eq_some_iff.mp (show (keyInts ks).map (i :: ·) = some _ from e)
    subst e2
    rw [keyInts_map e1]; rfl
  | .inr _ :: _, _, e => by cases e
theorem trs1 {vs : List V} {x : D} (h : TRs G H N vs [x]) : ∃ v, vs = [v] ∧ TR G H N v x := by
  cases h with
  | cons a b => cases b; exact ⟨_, rfl, a⟩
theorem trs2 {vs : List V} {x y : D} (h : TRs G H N vs [x, y]) : ∃ v w, vs = [v, w] ∧ TR G H N v x ∧ TR G H N w y := by
  cases h with
  | cons a b =>
    cases b with
    | cons b c => cases c; exact ⟨_, _, rfl, a, b⟩
theorem TR.ty {v : V} {x : D} {t : String} (h : TR G H N v x) (e : tyOf x = some t) : TyX G.K H v (.type t) := by
  cases x with
  | non => cases e; cases h with | dr h => cases h; exact .base .non
  | bl b => cases e; rw [h.bl]; exact .base (.bl b)
  | int b => cases e; rw [h.int]; exact .base (.int b)
  | str b => cases e; rw [h.str]; exact .base (.str b)
  | lst xs =>
    cases e
    obtain ⟨a, vs, rfl, h1 | ⟨o, h1⟩, _⟩ := h.listR
    · exact .base (.lst h1)
    · exact .base (.frz h1)
  | tup xs =>
    cases e
    obtain ⟨a, vs, rfl, (h1 | ⟨o, h1⟩) | ⟨o, its, n, k1, k2, _⟩, _⟩ := h.tupR
    · exact .base (.tup h1)
    · exact .fTuple h1
    · exact .kTuple k1 k2
  | dct ks vs =>
    cases e
    cases h with
    | dr h =>
      cases h with
      | dct h n l r =>
        rcases h with h | ⟨o, h⟩
        · exact .base (.dK h)
        · exact .fDict h
    | dct h l r => exact .base (.dK h)
  | _ => cases e
theorem kit_all : ∀ t ∈ ["NoneType", "bool", "int", "str", "list", "tuple", "dict"], ∀ n ∈ asked, kitB t n = some (t == n || (t == "bool" && n == "int")) := by decide +kernel
theorem tyOf_mem {x : D} {t : String} (e : tyOf x = some t) : t ∈ ["NoneType", "bool", "int", "str", "list", "tuple", "dict"] := by
  cases x <;> first | (cases e; decide) | cases e
mutual
theorem pyData_noDict : ∀ (x : D) {p : PyData}, x.py = some p → p.hasDict = false
  | .non, _, e => by cases e; rfl
  | .bl _, _, e => by cases e; rfl
  | .int _, _, e => by cases e; rfl
  | .str _, _, e => by cases e; rfl
  | .lst xs, _, e => by
    obtain ⟨ps, e1, e2⟩ := Option.map_eq_some_iff.mp (show (pys xs).map PyData.list = some _ from e)
    subst e2
    exact pys_noDict xs e1
  | .tup xs, _, e => by
    obtain ⟨ps, e1, e2⟩ := Option.map_eq_some_iff.mp (show (pys xs).map PyData.tuple = some _ from e)
    subst e2
    exact pys_noDict xs e1
  | .dct _ _, _, e => by cases e
  | .fn _, _, e => by cases e
  | .ty _, _, e => by cases e
  | .cls _, _, e => by cases e
theorem pys_noDict : ∀ (xs : List D) {ps : List PyData}, pys xs = some ps → PyData.hasDictAll ps = false
  | [], _, e => by cases e; rfl
  | x :: xs, _, e => by
    obtain ⟨p, e1, e2⟩ := Option.bind_eq_some_iff.mp (show x.py.bind (fun y => (pys xs).map (y :: ·)) = some _ from e)
    obtain ⟨ps, e3, e4⟩ := Option.map_eq_some_iff.mp e2
    subst e4
    show (p.hasDict || PyData.hasDictAll ps) = false
    rw [pyData_noDict x e1, pys_noDict xs e3]; rfl
end
theorem bestI_lt (f : PyData → PyData → Bool) (ps : List PyData) (h : ps ≠ []) : bestI f ps < ps.length := by
  have le : ∀ (bt : Nat → Nat → Bool) (k : Nat), argBest bt k ≤ k := fun bt k => by
    induction k with
    | zero => exact Nat.le_refl _
    | succ k ih =>
      unfold argBest
      split
      · exact Nat.le_refl _
      · exact Nat.le_succ_of_le ih
  have := le (fun i j => f (ps.getD i .none) (ps.getD j .none)) (ps.length - 1)
  have hl : 0 < ps.length := List.length_pos_iff.mpr h
  unfold bestI
  omega
theorem bestD_some {f : PyData → PyData → Bool} {xs : List D} {r : Val} (h : bestD f xs = some r) : ∃ ps x, pys xs = some ps ∧ SeqAt.shaped (.list ps) = true ∧ PySem.W.AlikeAll ps ∧ ps ≠ [] ∧ xs[bestI f ps]? = some x ∧ r = .d x := by
  obtain ⟨ps, e1, h⟩ := Option.bind_eq_some_iff.mp h
  split at h
  case isFalse => cases h
  case isTrue z =>
  simp only [Bool.and_eq_true, List.all_eq_true, Bool.not_eq_true'] at z
  obtain ⟨x, e2, rfl⟩ := Option.map_eq_some_iff.mp h
  exact ⟨ps, x, e1, z.1.1.1, ⟨z.1.1.2, fun y hy n => by have := z.1.2 y hy; rw [n] at this; exact absurd this (by decide)⟩, fun n => by rw [n] at z; exact absurd z.2 (by decide), e2, rfl⟩
theorem best_max (hG : G.K = X.K) (hc : X.calm = true) (hu : X.A.units + 100 < cLine) {pins : List (Addr × Obj)} {s : Shared} {σ : L2.St} {Q : VK} {u : Value} {a : Addr} {vs : List V} {ys : List D} {ps : List PyData} {x : D} (I : Inv X pins σ H s) (h1 : Rd H a (.lst vs)) (r1 : DRs G H N vs ys) (e1 : pys ys = some ps) (sh : SeqAt.shaped (.list ps) = true) (al : PySem.W.AlikeAll ps) (ne : ps ≠ []) (ex : ys[bestI (fun x y => PySem.W.dataLt y x) ps]? = some x)
    (q : ∀ v, DR G H N v x → Q v H) : wpAny (model X.prog X.w) X.A (call (.builtin "max") [.ref a]) (EP X pins σ Q) X.xe s := by
  obtain ⟨its, rv, hl, _⟩ := I.list (.inl h1)
  obtain ⟨as, hr⟩ := Dp.readsAll I ps vs its (hG ▸ r1.dp _ e1) rv
  obtain ⟨v, ev, dv⟩ := r1.get ex
  obtain ⟨w, ew, rw_⟩ := rv.get ev
  have hn : its.length = ps.length := PySem.SeqAt.ReadsAll.length _ _ _ hr
  have hd := SeqAt.depth_of_shaped sh
  have hr' : ReadsAll s.heap its.toArray.toList ps as := by simpa using hr
  refine PySem.call_max_walkH (PySem.W.iter_listW (A := X.A.in1) (I.ok.hd hc) hl.isList fun s₂ e W st hfp hw hk => ?_)
  refine ⟨_, _, _, _, _, _, _, s.heap, _, rfl, W, st, hfp, by have := List.length_pos_iff.mpr ne; simp; omega, hw, hk, PySem.W.cmpIn_gt (A := X.A.in1) hr' al (by show X.A.units + 1 + PyData.depthAll ps < cLine; have hd : PyData.depthAll ps + 1 ≤ 64 := hd; omega), fun v' s' hP m => ?_⟩
  obtain ⟨h', tk, rfl, hk'⟩ := PySem.W.moved_old e rfl m
  have hP : its.toArray[bestI (fun x y => PySem.W.dataLt y x) ps]? = some v' := by
    unfold bestI
    have e0 : its.toArray.size - 1 = ps.length - 1 := by simp [hn]
    rw [← e0]
    exact hP
  have ew' : its.toArray[bestI (fun x y => PySem.W.dataLt y x) ps]? = some w := by simpa using ew
  rw [hP] at ew'
  cases ew'
  exact ⟨v, H, I.kept hk', rw_, q v dv⟩
theorem best_min (hG : G.K = X.K) (hc : X.calm = true) (hu : X.A.units + 100 < cLine) {pins : List (Addr × Obj)} {s : Shared} {σ : L2.St} {Q : VK} {u : Value} {a : Addr} {vs : List V} {ys : List D} {ps : List PyData} {x : D} (I : Inv X pins σ H s) (h1 : Rd H a (.lst vs)) (r1 : DRs G H N vs ys) (e1 : pys ys = some ps) (sh : SeqAt.shaped (.list ps) = true) (al : PySem.W.AlikeAll ps) (ne : ps ≠ []) (ex : ys[bestI PySem.W.dataLt ps]? = some x)
    (q : ∀ v, DR G H N v x → Q v H) : wpAny (model X.prog X.w) X.A (call (.builtin "min") [.ref a]) (EP X pins σ Q) X.xe s := by
  obtain ⟨its, rv, hl, _⟩ := I.list (.inl h1)
  obtain ⟨as, hr⟩ := Dp.readsAll I ps vs its (hG ▸ r1.dp _ e1) rv
  obtain ⟨v, ev, dv⟩ := r1.get ex
  obtain ⟨w, ew, rw_⟩ := rv.get ev
  have hn : its.length = ps.length := PySem.SeqAt.ReadsAll.length _ _ _ hr
  have hd := SeqAt.depth_of_shaped sh
  have hr' : ReadsAll s.heap its.toArray.toList ps as := by simpa using hr
  refine PySem.call_min_walkH (PySem.W.iter_listW (A := X.A.in1) (I.ok.hd hc) hl.isList fun s₂ e W st hfp hw hk => ?_)
  refine ⟨_, _, _, _, _, _, _, s.heap, _, rfl, W, st, hfp, by have := List.length_pos_iff.mpr ne; simp; omega, hw, hk, PySem.W.cmpIn_lt (A := X.A.in1) hr' al (by show X.A.units + 1 + PyData.depthAll ps < cLine; have hd : PyData.depthAll ps + 1 ≤ 64 := hd; omega), fun v' s' hP m => ?_⟩
  obtain ⟨h', tk, rfl, hk'⟩ := PySem.W.moved_old e rfl m
  have hP : its.toArray[bestI PySem.W.dataLt ps]? = some v' := by
    unfold bestI
    have e0 : its.toArray.size - 1 = ps.length - 1 := by simp [hn]
    rw [← e0]
    exact hP
  have ew' : its.toArray[bestI PySem.W.dataLt ps]? = some w := by simpa using ew
  rw [hP] at ew'
  cases ew'
  exact ⟨v, H, I.kept hk', rw_, q v dv⟩
theorem bi_ok (hG : G.K = X.K) (b : BI) (hc : b.cool = false → X.calm = true) (hu : X.A.units + 100 < cLine) (hg : X.A.guards = some []) : CallR X b.val (rDn G (biD b)) := by
  intro pins s σ H xs us Q I rv ⟨N, ds, r, f, ts, er, q⟩
  cases b with
  | len =>
    match ds, er with
    | [.lst ys], er =>
      cases er
      obtain ⟨v, rfl, t⟩ := trs1 ts
      obtain ⟨a, vs, rfl, h1, r1⟩ := t.listR
      exact call_len_seq pins s σ H _ us Q I rv ⟨a, vs, rfl, .inl (.inl h1), q _ _ (by rw [r1.len]; exact .val (.int _))⟩
    | [.klst ys], er =>
      cases er
      obtain ⟨v, rfl, t⟩ := trs1 ts
      obtain ⟨a, vs, rfl, h1, r1⟩ := t.klstR
      exact call_len_seq pins s σ H _ us Q I rv ⟨a, vs, rfl, .inl (hG ▸ h1.sq), q _ _ (by rw [r1.len]; exact .val (.int _))⟩
    | [.tup ys], er =>
      cases er
      obtain ⟨v, rfl, t⟩ := trs1 ts
      obtain ⟨a, vs, rfl, h1, r1⟩ := t.tupR
      exact call_len_seq pins s σ H _ us Q I rv ⟨a, vs, rfl, .inr (hG ▸ h1), q _ _ (by rw [r1.len]; exact .val (.int _))⟩
    | [.str t], er =>
      obtain ⟨z, er⟩ := of_if (show (if t.length ≤ sizeLine then some (Val.d (.int t.length)) else none) = some r from er)
      subst er
      obtain ⟨v, rfl, k⟩ := trs1 ts
      exact call_len pins s σ H _ us Q I rv ⟨v, t.length, rfl, by rw [k.str]; exact ⟨z, rfl⟩, q _ _ (.val (.int _))⟩
  | abs =>
    match ds, er with
    | [.int i], er =>
      cases er
      obtain ⟨v, rfl, t⟩ := trs1 ts
      exact call_abs pins s σ H _ us Q I rv ⟨i, by rw [t.int], q _ _ (.val (.int _))⟩
  | isinst =>
    match ds, er with
    | [x, .ty n], er =>
      obtain ⟨k, e1, rfl⟩ := Option.map_eq_some_iff.mp (show (isiD x n).map (fun b => Val.d (.bl b)) = some r from er)
      obtain ⟨v, w, rfl, t1, t2⟩ := trs2 ts
      unfold isiD at e1
      by_cases ha : asked.contains n = true
      · rw [if_pos ha] at e1
        obtain ⟨t, e2, rfl⟩ := Option.map_eq_some_iff.mp e1
        cases t2 with
        | dr t2 =>
        cases t2
        exact call_isi pins s σ H _ us Q I rv ⟨v, _, .type t, .type n, _, rfl, .ty n, hG ▸ t1.ty e2, kit_ty (kit_all t (tyOf_mem e2) n (by simpa using ha)), q _ _ (.val (.bl _))⟩
      · rw [if_neg ha] at e1; cases e1
  | all =>
    match ds, er with
    | [.lst ys], er =>
      obtain ⟨bs, e1, rfl⟩ := Option.map_eq_some_iff.mp (show (boolsOf ys).map (fun bs => Val.d (.bl (bs.all id))) = some r from er)
      obtain ⟨v, rfl, t⟩ := trs1 ts
      obtain ⟨a, vs, rfl, h1, r1⟩ := t.listR
      exact cr_all (hc rfl) pins s σ H _ us Q I rv ⟨a, bs, rfl, by rw [← r1.bools e1]; exact .inl h1, q _ _ (.val (.bl _))⟩
  | any =>
    match ds, er with
    | [.lst ys], er =>
      obtain ⟨bs, e1, rfl⟩ := Option.map_eq_some_iff.mp (show (boolsOf ys).map (fun bs => Val.d (.bl (bs.any id))) = some r from er)
      obtain ⟨v, rfl, t⟩ := trs1 ts
      obtain ⟨a, vs, rfl, h1, r1⟩ := t.listR
      exact cr_any (hc rfl) pins s σ H _ us Q I rv ⟨a, bs, rfl, by rw [← r1.bools e1]; exact .inl h1, q _ _ (.val (.bl _))⟩
  | sum =>
    match ds, er with
    | [.lst ys], er =>
      obtain ⟨ns, e1, rfl⟩ := Option.map_eq_some_iff.mp (show (intsOf ys).map (fun ns => Val.d (.int ns.sum)) = some r from er)
      obtain ⟨v, rfl, t⟩ := trs1 ts
      obtain ⟨a, vs, rfl, h1, r1⟩ := t.listR
      exact cr_sum (hc rfl) pins s σ H _ us Q I rv ⟨a, ns, rfl, by rw [← r1.ints e1]; exact .inl h1, q _ _ (.val (.int _))⟩
  | max =>
    match ds, er with
    | [.int i, .int j], er =>
      cases er
      obtain ⟨v, w, rfl, t1, t2⟩ := trs2 ts
      exact call_max2 (hc rfl) pins s σ H _ us Q I rv ⟨i, j, by rw [t1.int, t2.int], q _ _ (.val (.int _))⟩
    | [.lst ys], er =>
      obtain ⟨ps, x, e1, sh, al, ne, ex, rfl⟩ := bestD_some (show bestD _ ys = some r from er)
      obtain ⟨v, rfl, t⟩ := trs1 ts
      obtain ⟨a, vs, rfl, h1, r1⟩ := t.listR
      rw [Vals.ref1 rv]
      exact best_max (u := .none) hG (hc rfl) hu I h1 r1 e1 sh al ne ex fun w dw => q _ _ (.val dw)
  | min =>
    match ds, er with
    | [.int i, .int j], er =>
      cases er
      obtain ⟨v, w, rfl, t1, t2⟩ := trs2 ts
      exact call_min2 (hc rfl) pins s σ H _ us Q I rv ⟨i, j, by rw [t1.int, t2.int], q _ _ (.val (.int _))⟩
    | [.lst ys], er =>
      obtain ⟨ps, x, e1, sh, al, ne, ex, rfl⟩ := bestD_some (show bestD _ ys = some r from er)
      obtain ⟨v, rfl, t⟩ := trs1 ts
      obtain ⟨a, vs, rfl, h1, r1⟩ := t.listR
      rw [Vals.ref1 rv]
      exact best_min (u := .none) hG (hc rfl) hu I h1 r1 e1 sh al ne ex fun w dw => q _ _ (.val dw)
  | int =>
    match ds, er with
    | [.int i], er =>
      cases er
      obtain ⟨v, rfl, t⟩ := trs1 ts
      exact call_int1 pins s σ H _ us Q I rv (.inl ⟨i, by rw [t.int], q _ _ (.val (.int _))⟩)
    | [.bl k], er =>
      cases er
      obtain ⟨v, rfl, t⟩ := trs1 ts
      exact call_int1 pins s σ H _ us Q I rv (.inr ⟨k, by rw [t.bl], q _ _ (.val (.int _))⟩)
    | [.str k], er =>
      have er : (if k.length ≤ 640 then (PySem.intText? k).map fun n => Val.d (.int n) else none) = some r := er
      by_cases z : k.length ≤ 640
      · rw [if_pos z] at er
        obtain ⟨n, e1, rfl⟩ := Option.map_eq_some_iff.mp er
        obtain ⟨v, rfl, t⟩ := trs1 ts
        exact call_int_str pins s σ H _ us Q I rv ⟨k, n, by rw [t.str], e1, z, q _ _ (.val (.int _))⟩
      · rw [if_neg z] at er; cases er
  | list =>
    match ds, er with
    | [.lst ys], er =>
      cases er
      obtain ⟨v, rfl, t⟩ := trs1 ts
      obtain ⟨a, vs, rfl, h1, r1⟩ := t.listR
      exact call_list_of pins s σ H _ us Q I rv ⟨a, vs, rfl, .inl (.inl h1), fun p hp => q _ _ (.lst hp r1)⟩
    | [.klst ys], er =>
      cases er
      obtain ⟨v, rfl, t⟩ := trs1 ts
      obtain ⟨a, vs, rfl, h1, r1⟩ := t.klstR
      exact call_list_of pins s σ H _ us Q I rv ⟨a, vs, rfl, .inl (hG ▸ h1.sq), fun p hp => q _ _ (.lst hp r1)⟩
    | [.tup ys], er =>
      cases er
      obtain ⟨v, rfl, t⟩ := trs1 ts
      obtain ⟨a, vs, rfl, h1, r1⟩ := t.tupR
      exact call_list_of pins s σ H _ us Q I rv ⟨a, vs, rfl, .inr (hG ▸ h1), fun p hp => q _ _ (.lst hp r1)⟩
  | tuple =>
    match ds, er with
    | [.lst ys], er =>
      cases er
      obtain ⟨v, rfl, t⟩ := trs1 ts
      obtain ⟨a, vs, rfl, h1, r1⟩ := t.listR
      exact call_tuple_of pins s σ H _ us Q I rv ⟨a, vs, rfl, .inl ⟨.inl h1, fun p hp => q _ _ (.tup f hp r1)⟩⟩
    | [.tup ys], er =>
      cases er
      obtain ⟨v, rfl, t⟩ := trs1 ts
      cases t with
      | dr t =>
      obtain ⟨a, vs, rfl, h1, r1, _⟩ := id t.tupR
      exact call_tuple_of pins s σ H _ us Q I rv ⟨a, vs, rfl, .inr ⟨hG ▸ h1, q _ _ (.val t)⟩⟩
  | sorted =>
    match ds, er with
    | [.lst ys], er =>
      obtain ⟨ns, e1, rfl⟩ := Option.map_eq_some_iff.mp (show (intsOf ys).map (fun ns => Val.own (.lst ((sortI ns).map .int))) = some r from er)
      obtain ⟨v, rfl, t⟩ := trs1 ts
      obtain ⟨a, vs, rfl, h1, r1⟩ := t.listR
      refine cr_sortedI pins s σ H _ us Q I rv ⟨a, ns, rfl, by rw [← r1.ints e1]; exact .inl h1, fun ms p pm rs hp => ?_⟩
      rw [sortI_same pm rs]
      exact q _ _ (.lst hp (drs_ints _))
    | [.dct ks ys], er =>
      obtain ⟨ns, e1, e2⟩ := Option.bind_eq_some_iff.mp (show (keyInts ks).bind (fun ns => if ns.length < 64 then some (Val.own (.lst ((sortI ns).map .int))) else none) = some r from er)
      obtain ⟨z, rfl⟩ := of_if e2
      obtain ⟨v, rfl, t⟩ := trs1 ts
      have go : ∀ {a : Addr} {vs : List V}, v = .ref a → Rd H a (.dK (ks.zip vs)) → ks.length = vs.length → wpAny (model X.prog X.w) X.A (call (.builtin "sorted") us) (EP X pins σ Q) X.xe s := fun {a vs} ev h l => by
        subst ev
        refine call_sortedDI (hc rfl) pins s σ H _ us Q I rv ⟨a, _, ns, rfl, h, ?_, z, fun ms p pm rs hp => ?_⟩
        · rw [List.map_fst_zip (by omega)]; exact keyInts_map e1
        · rw [sortI_same pm rs]
          exact q _ _ (.lst hp (drs_ints _))
      cases t with
      | dr h => cases h with | dct h n l r1 => exact go rfl h l
      | dct h l r1 => exact go rfl (.inl h) l
  | repr =>
    match ds, er with
    | [x], er =>
      obtain ⟨p, e1, e2⟩ := Option.bind_eq_some_iff.mp (show x.py.bind (fun p => if (p.showable && decide (p.depth ≤ 40) && decide (p.shown.length ≤ sizeLine)) = true then some (Val.d (.str p.shown)) else none) = some r from er)
      obtain ⟨z, rfl⟩ := of_if e2
      simp only [Bool.and_eq_true, decide_eq_true_eq] at z
      obtain ⟨v, rfl, t⟩ := trs1 ts
      obtain ⟨u, rfl, ru⟩ := vals1 rv
      obtain ⟨as, rd⟩ := Dp.reads I p v u (hG ▸ t.dp e1) ru
      have nd := pyData_noDict x e1
      have go : ∀ a, u = .ref a → wpAny (model X.prog X.w) X.A (call (.builtin "repr") [u]) (EP X pins σ Q) X.xe s := fun a eu => by
        subst eu
        exact repr_of_reads' rd z.1.1 (fun w => by rw [nd] at w; cases w) hg (by omega) (fun _ _ e => e) (fun h' w tk k => ⟨.str _, H, I.kept k, ⟨_, rfl⟩, q _ _ (.val (.str _))⟩) z.2
      cases x with
      | non =>
        cases e1; cases t with | dr t => cases t; cases ru
                                         exact PySem.P.repr_of_none ⟨.str _, H, I.tok _, ⟨_, rfl⟩, q _ _ (.val (.str _))⟩
      | bl b =>
        cases e1; cases t with | dr t => cases t; cases ru
                                         exact PySem.P.repr_of_bool ⟨.str _, H, I.tok _, ⟨_, rfl⟩, q _ _ (.val (.str _))⟩
      | int i =>
        cases e1; cases t with | dr t => cases t; obtain ⟨tk, rfl⟩ := ru
                                         exact PySem.P.repr_of_int (of_decide_eq_true z.1.1) ⟨.str _, H, I.tok _, ⟨_, rfl⟩, q _ _ (.val (.str _))⟩
      | str i =>
        cases e1; cases t with | dr t => cases t; obtain ⟨tk, rfl⟩ := ru
                                         exact PySem.P.repr_of_str ⟨.str _, H, I.tok _, ⟨_, rfl⟩, q _ _ (.val (.str _))⟩ z.2
      | lst ys => obtain ⟨a, vs, rfl, _⟩ := t.listR; cases ru; exact go a rfl
      | tup ys => obtain ⟨a, vs, rfl, _⟩ := t.tupR; cases ru; exact go a rfl
      | _ => cases e1
  | bool => match ds, er with | [], er => cases er
  | str =>
    match ds, er with
    | [.int i], er =>
      obtain ⟨z, er⟩ := of_if (show (if i.natAbs.log2 < 1920 then some (Val.d (.str (toString i))) else none) = some r from er)
      subst er
      obtain ⟨v, rfl, t⟩ := trs1 ts
      exact call_str_int pins s σ H _ us Q I rv ⟨i, by rw [t.int], z, q _ _ (.val (.str _))⟩
    | [.str i], er =>
      cases er
      obtain ⟨v, rfl, t⟩ := trs1 ts
      exact SkE.call_str_str pins s σ H _ us Q I rv ⟨i, by rw [t.str], q _ _ (.val (.str _))⟩
end
end Mi

set_option maxHeartbeats 4000000
/-! the forms of expressions -/
namespace Mi
open PySem PySem.Spec PyProof.Rows L2

section
variable {G : Gb} {W : WX} {X : Cx} {e a b c : Expr} {es : List Expr} {pos : Pos}

/-! ### constants, names -/
theorem ev_k {x : D} {v : V} (h : ∀ H N, DR G H N v x) (hp : PE X e (tC v)) : PE X e (tI G W fun _ S => .ok (.d x) S) :=
  PE_imp hp fun σ H Q ⟨M, ρ, E, S, hE, hS, g⟩ => g _ _ Step.refl ⟨hS, .d (h _ _)⟩
theorem ev_var {i : Nat} (hp : PE X e (tVar i)) : PE X e (tI G W fun E S => R.of (getV E i) S) :=
  PE_imp hp fun σ H Q ⟨M, ρ, E, S, hE, hS, g⟩ => by
    obtain ⟨x, ex, q⟩ := of_some g
    have e1 : E[i]? = some (some x) := by
      unfold getV at ex
      cases z : E[i]? with
      | none => rw [z] at ex; cases ex
      | some o => rw [z] at ex; cases o with
        | none => cases ex
        | some y => cases ex; rfl
    obtain ⟨v, h1, h2⟩ := hE.val i x e1
    refine ⟨v, h1, q v H Step.refl ?_⟩
    cases h2 with
    | d h => exact ⟨hS, .d h⟩
    | ref h => exact ⟨hS, .ref h⟩
    | err hp hc hd hf hn hH nd h => exact ⟨hS, .err hp hc hd hf hn hH nd h⟩
theorem ev_glb {g : Nat} {Gs : List D} {x : D} {v : V} (hg : Gs[g]? = some x) (h : ∀ H N, DR G H N v x) (hp : PE X e (tC v)) : PE X e (tI G W fun _ S => R.of ((Gs[g]?).map .d) S) := by
  rw [hg]
  exact ev_k h hp

/-! ### two operands, one -/
theorem imp_op2 {ma mb : Sm} {f : D → D → Option Val} (σ : L2.St) (H : Hp) (Q : VK) : tI G W (op2 ma mb f) σ H Q → tOp (rD2 G f) (tI G W ma.ev) (tI G W mb.ev) σ H Q := by
  refine fun ⟨M, ρ, E, S, hE, hS, g⟩ => ⟨M, ρ, E, S, hE, hS, (Got.bind g).imp fun v S1 g x H1 t1 o1 => ⟨M, ρ, E, S1, hE.step t1, o1.sim, ((Got.bind g).later t1).imp fun u S2 g y H2 t2 o2 => ?_⟩⟩
  obtain ⟨r, er, q⟩ := of_some g
  obtain ⟨dx, e1, er⟩ := Option.bind_eq_some_iff.mp er
  obtain ⟨dy, e2, er⟩ := Option.bind_eq_some_iff.mp er
  have s2 := o2.sim
  refine ⟨Av M ρ S2, dx, dy, r, s2.fit, (o1.ar.step t2).peek s2 e1, o2.ar.peek s2 e2, er, fun w H' hr => ?_⟩
  obtain ⟨t3, o3⟩ := hr.out s2
  exact q w H' ((t1.trans t2).trans t3) (o3.later (t1.trans t2) hS)
theorem ev_un {ma : Sm} {f : D → Option Val} (h : PE X e (fun σ H Q => (tI G W ma.ev) σ H fun x H1 => rD1 G f x H1 Q)) : PE X e (tI G W (un ma f)) := by
  refine PE_imp h fun σ H Q ⟨M, ρ, E, S, hE, hS, g⟩ => ⟨M, ρ, E, S, hE, hS, (Got.bind g).imp fun v S1 g x H1 t1 o1 => ?_⟩
  obtain ⟨r, er, q⟩ := of_some g
  obtain ⟨dx, e1, er⟩ := Option.bind_eq_some_iff.mp er
  have s1 := o1.sim
  refine ⟨Av M ρ S1, dx, r, s1.fit, o1.ar.peek s1 e1, er, fun w H' hr => ?_⟩
  obtain ⟨t3, o3⟩ := hr.out s1
  exact q w H' (t1.trans t3) (o3.later t1 hS)
theorem un_negD : UnR X (unaryOp .USub) (rD1 G negD) := by
  intro pins s σ H x v Q I rx ⟨N, d, r, f, tx, er, q⟩
  cases d with
  | int i =>
    cases er
    rw [tx.int] at rx
    exact un_neg pins s σ H _ v Q I rx ⟨i, rfl, q _ _ (.val (.int _))⟩
  | _ => cases er
theorem ev_neg {ma : Sm} (ha : PE X a (tI G W ma.ev)) : PE X (.UnaryOp .USub a pos) (tI G W (un ma negD)) := ev_un (pe_un un_negD ha)
theorem ev_bin {ma mb : Sm} {op : Operator} (hG : G.K = X.K) (ha : PE X a (tI G W ma.ev)) (hb : PE X b (tI G W mb.ev)) : PE X (.BinOp a op b pos) (tI G W (op2 ma mb (binD op))) :=
  PE_imp (pe_op (op_binD hG op) ha hb) imp_op2
theorem ev_cmp {ma mb : Sm} {op : CmpOp} (hG : G.K = X.K) (hu : X.A.units + 100 < cLine) (hm : behindInMarks op b = false) (ha : PE X a (tI G W ma.ev)) (hb : PE X b (tI G W mb.ev)) : PE X (.Compare a [op] [b] pos) (tI G W (op2 ma mb (cmpV op))) :=
  PE_imp (pe_cmpR (op_cmpD hG (by omega) op) ha hb hm) imp_op2
theorem ev_ix {ma mb : Sm} (hG : G.K = X.K) (hu : X.A.units + 100 < cLine) (hs : PlainIx b) (ha : PE X a (tI G W ma.ev)) (hb : PE X b (tI G W mb.ev)) : PE X (.Subscript a b pos) (tI G W (op2 ma mb fun x y => (ixD x y).map .d)) :=
  PE_imp (pe_ix (ix_D hG (by omega)) ha hb hs) imp_op2
/-- a test from a value that is a truth value -/
theorem ts_of {f : Env → Store → R Val} (hb : ∀ E S x S', f E S = .ok x S' → ∃ k, x = .d (.bl k)) (h : PT X e (tTest (tI G W f))) : PT X e (tT G W (Sm.v f).ts) := by
  refine PT_imp h fun σ H Q ⟨M, ρ, E, S, hE, hS, g⟩ => ⟨M, ρ, E, S, hE, hS, ?_⟩
  have g := Got.bind g
  cases q : f E S with
  | no => rw [q] at g; exact g.elim
  | ex c a S' => rw [q] at g; exact g
  | ok x S' =>
    rw [q] at g
    obtain ⟨k, rfl⟩ := hb E S x S' q
    have g : Got G W M σ ρ S H (R.of ((Val.peek S' (.d (.bl k))).bind truD) S') (fun b S' => ∀ H', Step ρ S H S' H' → Sim G M H' ρ S' → Q b H') := g
    obtain ⟨b, eb, g⟩ := of_some g
    cases eb
    intro v H' t o
    obtain ⟨s1, r⟩ := id o
    cases r with
    | d r => cases r; exact ⟨k, rfl, g H' t s1⟩
theorem ts_cmp {ma mb : Sm} {op : CmpOp} (hG : G.K = X.K) (hu : X.A.units + 100 < cLine) (hm : behindInMarks op b = false) (ha : PE X a (tI G W ma.ev)) (hb : PE X b (tI G W mb.ev)) : PT X (.Compare a [op] [b] pos) (tT G W (Sm.v (op2 ma mb (cmpV op))).ts) := by
  refine ts_of (fun E S x S' h => ?_) (PT_imp (pt_cmpR (op_cmpD hG (by omega) op) ha hb hm) fun σ H Q => imp_op2 σ H _)
  unfold op2 at h
  cases h1 : ma.ev E S with
  | no => rw [h1] at h; cases h
  | ex c a S' => rw [h1] at h; cases h
  | ok v S1 =>
    rw [h1, R.bind_ok] at h
    cases h2 : mb.ev E S1 with
    | no => rw [h2] at h; cases h
    | ex c a S' => rw [h2] at h; cases h
    | ok u S2 =>
      rw [h2, R.bind_ok] at h
      cases h3 : ((v.peek S2).bind fun x => (u.peek S2).bind fun y => cmpV op x y) with
      | none => rw [h3] at h; cases h
      | some r =>
        rw [h3] at h
        cases h
        obtain ⟨dx, e1, er⟩ := Option.bind_eq_some_iff.mp h3
        obtain ⟨dy, e2, er⟩ := Option.bind_eq_some_iff.mp er
        obtain ⟨k, _, rfl⟩ := cmpV_some er
        exact ⟨k, rfl⟩
end

/-! ### chains -/
section
variable {G : Gb} {W : WX} {X : Cx} {e a b c : Expr} {es : List Expr} {pos : Pos}
theorem Out.d {M : Addr → Prop} {H : Hp} {ρ : List Addr} {S' : Store} {v : V} {H' : Hp} {x : D} (h : Out G M H ρ S' v H' (.d x)) : DR G H' (Av M ρ S') v x := by
  obtain ⟨_, r⟩ := h
  cases r with
  | d h => exact h
theorem imp_chn {ma mb mc : Sm} {o1 o2 : CmpOp} (σ : L2.St) (H : Hp) (Q : VK) : tI G W (chain o1 o2 ma mb mc) σ H Q → tChain (rD2 G (cmpV o1)) (rD2 G (cmpV o2)) (tI G W ma.ev) (tI G W mb.ev) (tI G W mc.ev) σ H Q := by
  intro ⟨M, ρ, E, S, hE, hS, g⟩
  refine ⟨M, ρ, E, S, hE, hS, (Got.bind g).imp fun v S1 g x H1 t1 q1 => ⟨M, ρ, E, S1, hE.step t1, q1.sim, ((Got.bind g).later t1).imp fun u S2 g y H2 t2 q2 => ?_⟩⟩
  obtain ⟨k, ek, g⟩ := of_some (Got.bind g)
  obtain ⟨dx, e1, ek⟩ := Option.bind_eq_some_iff.mp ek
  obtain ⟨dy, e2, ek⟩ := Option.bind_eq_some_iff.mp ek
  have s2 := q2.sim
  refine ⟨Av M ρ S2, dx, dy, .d (.bl k), s2.fit, (q1.ar.step t2).peek s2 e1, q2.ar.peek s2 e2, by unfold cmpV; rw [ek]; rfl, fun w H' hr => ?_⟩
  obtain ⟨t3, q3⟩ := hr.out s2
  obtain ⟨_, hw⟩ := hr
  cases hw
  refine ⟨k, rfl, ?_⟩
  cases k with
  | false =>
    exact g _ H' ((t1.trans t2).trans t3) (q3.later (t1.trans t2) hS)
  | true =>
    refine ⟨M, ρ, E, S2, hE.step ((t1.trans t2).trans t3), q3.sim, ((Got.bind g).later ((t1.trans t2).trans t3)).imp fun z S3 g w H4 t4 q4 => ?_⟩
    obtain ⟨r, er, g⟩ := of_some g
    obtain ⟨d2, e3, er⟩ := Option.bind_eq_some_iff.mp er
    obtain ⟨d3, e4, er⟩ := Option.bind_eq_some_iff.mp er
    have s4 := q4.sim
    refine ⟨Av M ρ S3, d2, d3, r, s4.fit, ((q2.ar.step t3).step t4).peek s4 e3, q4.ar.peek s4 e4, er, fun w H' hr => ?_⟩
    obtain ⟨t5, q5⟩ := hr.out s4
    have t6 := ((t1.trans t2).trans t3).trans t4
    exact g w H' (t6.trans t5) (q5.later t6 hS)

theorem ev_chn {ma mb mc : Sm} {o1 o2 : CmpOp} (hG : G.K = X.K) (hu : X.A.units + 100 < cLine) (hm : lastMarks [o1, o2] [b, c] = false) (ha : PE X a (tI G W ma.ev)) (hb : PE X b (tI G W mb.ev)) (hc : PE X c (tI G W mc.ev)) :
    PE X (.Compare a [o1, o2] [b, c] pos) (tI G W (chain o1 o2 ma mb mc)) := PE_imp (pe_chain (op_cmpD hG (by omega) o1) (op_cmpD hG (by omega) o2) ha hb hc hm) imp_chn
theorem chain_bl {ma mb mc : Sm} {o1 o2 : CmpOp} {E : Env} {S S' : Store} {x : Val} (h : chain o1 o2 ma mb mc E S = .ok x S') : ∃ k, x = .d (.bl k) := by
  unfold chain at h
  cases h1 : ma.ev E S with
  | no => rw [h1] at h; cases h
  | ex c a S' => rw [h1] at h; cases h
  | ok v S1 =>
    rw [h1, R.bind_ok] at h
    cases h2 : mb.ev E S1 with
    | no => rw [h2] at h; cases h
    | ex c a S' => rw [h2] at h; cases h
    | ok u S2 =>
      rw [h2, R.bind_ok] at h
      cases h3 : ((v.peek S2).bind fun x => (u.peek S2).bind fun y => cmpD o1 x y) with
      | none => rw [h3] at h; cases h
      | some k =>
        rw [h3, R.of_some, R.bind_ok] at h
        cases k with
        | false => cases h; exact ⟨_, rfl⟩
        | true =>
          rw [if_pos rfl] at h
          cases h4 : mc.ev E S2 with
          | no => rw [h4] at h; cases h
          | ex c a S' => rw [h4] at h; cases h
          | ok w S3 =>
            rw [h4, R.bind_ok] at h
            cases h5 : ((u.peek S3).bind fun y => (w.peek S3).bind fun z => cmpV o2 y z) with
            | none => rw [h5] at h; cases h
            | some r =>
              rw [h5] at h
              cases h
              obtain ⟨dx, e1, er⟩ := Option.bind_eq_some_iff.mp h5
              obtain ⟨dy, e2, er⟩ := Option.bind_eq_some_iff.mp er
              obtain ⟨k, _, rfl⟩ := cmpV_some er
              exact ⟨k, rfl⟩
theorem ts_chn {ma mb mc : Sm} {o1 o2 : CmpOp} (hG : G.K = X.K) (hu : X.A.units + 100 < cLine) (hm : lastMarks [o1, o2] [b, c] = false) (ha : PE X a (tI G W ma.ev)) (hb : PE X b (tI G W mb.ev)) (hc : PE X c (tI G W mc.ev)) :
    PT X (.Compare a [o1, o2] [b, c] pos) (tT G W (Sm.v (chain o1 o2 ma mb mc)).ts) :=
  ts_of (fun _ _ _ _ h => chain_bl h) (PT_imp (pt_chain (op_cmpD hG (by omega) o1) (op_cmpD hG (by omega) o2) ha hb hc hm) fun σ H Q => imp_chn σ H _)

/-! ### and, or, not, if-else -/
theorem ev_not {ma : Sm} (ha : PE X a (tI G W ma.ev)) : PE X (.UnaryOp .Not a pos) (tI G W (un ma notD)) := by
  refine PE_imp (pe_not ha) fun σ H Q ⟨M, ρ, E, S, hE, hS, g⟩ => ⟨M, ρ, E, S, hE, hS, (Got.bind g).imp fun v S1 g x H1 t1 o1 => ?_⟩
  obtain ⟨r, er, q⟩ := of_some g
  obtain ⟨dx, e1, er⟩ := Option.bind_eq_some_iff.mp er
  have s1 := o1.sim
  have tr := o1.ar.peek s1 e1
  cases dx with
  | bl k =>
    cases er
    exact ⟨k, tr.bl, q _ H1 t1 ⟨s1, .d (.bl _)⟩⟩
  | _ => cases er
theorem ts_not {ma : Sm} (ha : PT X a (tT G W ma.ts)) : PT X (.UnaryOp .Not a pos) (tT G W fun E S => (ma.ts E S).bind fun b S1 => .ok (!b) S1) :=
  PT_imp (pt_not ha) fun σ H Q ⟨M, ρ, E, S, hE, hS, g⟩ => ⟨M, ρ, E, S, hE, hS, (Got.bind g).imp fun b S1 g H1 t1 s1 => g H1 t1 s1⟩
theorem ev_ife {mt ma mb : Sm} (ht : PT X e (tT G W mt.ts)) (ha : PE X a (tI G W ma.ev)) (hb : PE X b (tI G W mb.ev)) :
    PE X (.IfExp e a b pos) (tI G W fun E S => (mt.ts E S).bind fun c S1 => if c then ma.ev E S1 else mb.ev E S1) := by
  refine PE_imp (pe_ifExp ht ha hb) fun σ H Q ⟨M, ρ, E, S, hE, hS, g⟩ => ⟨M, ρ, E, S, hE, hS, (Got.bind g).imp fun c S1 g H1 t1 s1 => ?_⟩
  have later : ∀ {m : Sm}, Got G W M σ ρ S H (m.ev E S1) (fun x S' => ∀ v H', Step ρ S H S' H' → Out G M H ρ S' v H' x → Q v H') → tI G W m.ev σ H1 Q := fun g =>
    ⟨M, ρ, E, S1, hE.step t1, s1, (g.later t1).imp fun x S2 q v H2 t2 o2 => q v H2 (t1.trans t2) (o2.later t1 hS)⟩
  cases c with
  | true => exact later g
  | false => exact later g
theorem ev_and1 {ma : Sm} (ha : PE X a (tI G W ma.ev)) : PE X (.BoolOp .And [a] pos) (tI G W (evAnd [ma])) := PE_imp (pe_one ha) fun _ _ _ h => h
theorem ev_or1 {ma : Sm} (ha : PE X a (tI G W ma.ev)) : PE X (.BoolOp .Or [a] pos) (tI G W (evOr [ma])) := PE_imp (pe_one ha) fun _ _ _ h => h
theorem ev_and {ma mb : Sm} {ms : List Sm} (ha : PE X a (tI G W ma.ev)) (hb : PE X (.BoolOp .And (b :: es) pos) (tI G W (evAnd (mb :: ms)))) : PE X (.BoolOp .And (a :: b :: es) pos) (tI G W (evAnd (ma :: mb :: ms))) := by
  refine PE_imp (pe_and ha hb) fun σ H Q ⟨M, ρ, E, S, hE, hS, g⟩ => ⟨M, ρ, E, S, hE, hS, (Got.bind g).imp fun v S1 g x H1 t1 o1 => ?_⟩
  match v, g, o1 with
  | .d (.bl true), g, o1 =>
    have r := o1.d
    cases r
    exact ⟨true, rfl, M, ρ, E, S1, hE.step t1, o1.sim, (g.later t1).imp fun x S2 q v H2 t2 o2 => q v H2 (t1.trans t2) (o2.later t1 hS)⟩
  | .d (.bl false), g, o1 =>
    have r := o1.d
    cases r
    exact ⟨false, rfl, g _ H1 t1 o1⟩
theorem ev_or {ma mb : Sm} {ms : List Sm} (ha : PE X a (tI G W ma.ev)) (hb : PE X (.BoolOp .Or (b :: es) pos) (tI G W (evOr (mb :: ms)))) : PE X (.BoolOp .Or (a :: b :: es) pos) (tI G W (evOr (ma :: mb :: ms))) := by
  refine PE_imp (pe_or ha hb) fun σ H Q ⟨M, ρ, E, S, hE, hS, g⟩ => ⟨M, ρ, E, S, hE, hS, (Got.bind g).imp fun v S1 g x H1 t1 o1 => ?_⟩
  match v, g, o1 with
  | .d (.bl false), g, o1 =>
    have r := o1.d
    cases r
    exact ⟨false, rfl, M, ρ, E, S1, hE.step t1, o1.sim, (g.later t1).imp fun x S2 q v H2 t2 o2 => q v H2 (t1.trans t2) (o2.later t1 hS)⟩
  | .d (.bl true), g, o1 =>
    have r := o1.d
    cases r
    exact ⟨true, rfl, g _ H1 t1 o1⟩
theorem ts_and1 {ma : Sm} (ha : PT X a (tT G W ma.ts)) : PW X (.BoolOp .And [a] pos) (tT G W (tsAnd [ma])) := PW_imp (pw_and1 ha) fun _ _ _ h => h
theorem ts_or1 {ma : Sm} (ha : PT X a (tT G W ma.ts)) : PW X (.BoolOp .Or [a] pos) (tT G W (tsOr [ma])) := PW_imp (pw_or1 ha) fun _ _ _ h => h
theorem ts_and {ma mb : Sm} {ms : List Sm} (ha : PT X a (tT G W ma.ts)) (hb : PW X (.BoolOp .And (b :: es) pos) (tT G W (tsAnd (mb :: ms)))) : PW X (.BoolOp .And (a :: b :: es) pos) (tT G W (tsAnd (ma :: mb :: ms))) := by
  refine PW_imp (pw_and ha hb) fun σ H Q ⟨M, ρ, E, S, hE, hS, g⟩ => ⟨M, ρ, E, S, hE, hS, (Got.bind g).imp fun c S1 g H1 t1 s1 => ?_⟩
  cases c with
  | true => exact ⟨M, ρ, E, S1, hE.step t1, s1, (Got.later t1 g).imp fun b S2 q H2 t2 s2 => q H2 (t1.trans t2) s2⟩
  | false => exact g H1 t1 s1
theorem ts_or {ma mb : Sm} {ms : List Sm} (ha : PT X a (tT G W ma.ts)) (hb : PW X (.BoolOp .Or (b :: es) pos) (tT G W (tsOr (mb :: ms)))) : PW X (.BoolOp .Or (a :: b :: es) pos) (tT G W (tsOr (ma :: mb :: ms))) := by
  refine PW_imp (pw_or ha hb) fun σ H Q ⟨M, ρ, E, S, hE, hS, g⟩ => ⟨M, ρ, E, S, hE, hS, (Got.bind g).imp fun c S1 g H1 t1 s1 => ?_⟩
  cases c with
  | false => exact ⟨M, ρ, E, S1, hE.step t1, s1, (Got.later t1 g).imp fun b S2 q H2 t2 s2 => q H2 (t1.trans t2) s2⟩
  | true => exact g H1 t1 s1

/-! ### arguments, displays -/
theorem as_nil : PA X [] (tAs G W (evAll [])) := PA_imp pa_nil fun σ H Q ⟨M, ρ, E, S, hE, hS, g⟩ => g _ _ Step.refl hS .nil
theorem as_cons {ma : Sm} {ms : List Sm} (ha : PE X a (tI G W ma.ev)) (hr : PA X es (tAs G W (evAll ms))) (hs : starEach (a :: es) X.env = (false, eval a X.env) :: starEach es X.env) : PA X (a :: es) (tAs G W (evAll (ma :: ms))) := by
  refine PA_imp (pa_cons ha hr hs) fun σ H Q ⟨M, ρ, E, S, hE, hS, g⟩ => ⟨M, ρ, E, S, hE, hS, (Got.bind g).imp fun v S1 g x H1 t1 o1 => ?_⟩
  exact ⟨M, ρ, E, S1, hE.step t1, o1.sim, ((Got.bind g).later t1).imp fun xs S2 q vs H2 t2 s2 r => q _ H2 (t1.trans t2) s2 (.cons (o1.ar.step t2) r)⟩
theorem ev_tup {ms : List Sm} {kk : Nat} (h : PA X es (tAs G W (evAll ms))) :
    PE X (.Tuple es kk pos) (tI G W fun E S => (evAll ms E S).bind fun vs S1 => R.of ((strictAll vs).bind fun xs => if xs.length ≤ sizeLine then some (.d (.tup xs)) else none) S1) := by
  refine PE_imp (pe_tup h) fun σ H Q ⟨M, ρ, E, S, hE, hS, g⟩ => ⟨M, ρ, E, S, hE, hS, (Got.bind g).imp fun xs S1 g vs H1 t1 s1 r => ?_⟩
  obtain ⟨y, ey, q⟩ := of_some g
  obtain ⟨ds, e1, e2⟩ := Option.bind_eq_some_iff.mp ey
  obtain ⟨z, rfl⟩ := of_if e2
  have rs := ARs.strict r e1
  refine ⟨by rw [rs.len]; exact z, fun p hp => ?_⟩
  obtain ⟨t2, o2⟩ := (Res.tup s1.fit hp rs).out s1
  exact q _ _ (t1.trans t2) (o2.later t1 hS)
theorem ev_lst {ms : List Sm} (h : PA X es (tAs G W (evAll ms))) :
    PE X (.List es pos) (tI G W fun E S => (evAll ms E S).bind fun vs S1 => R.of ((strictAll vs).bind fun xs => if xs.length ≤ sizeLine then some (.own (.lst xs)) else none) S1) := by
  refine PE_imp (pe_lst h) fun σ H Q ⟨M, ρ, E, S, hE, hS, g⟩ => ⟨M, ρ, E, S, hE, hS, (Got.bind g).imp fun xs S1 g vs H1 t1 s1 r => ?_⟩
  obtain ⟨y, ey, q⟩ := of_some g
  obtain ⟨ds, e1, e2⟩ := Option.bind_eq_some_iff.mp ey
  obtain ⟨z, rfl⟩ := of_if e2
  have rs := ARs.strict r e1
  refine ⟨by rw [rs.len]; exact z, fun p hp => ?_⟩
  obtain ⟨t2, o2⟩ := (Res.lst hp rs).out s1
  exact q _ _ (t1.trans t2) (o2.later t1 hS)
/-- a slice's part -/
def tPt (m : Env → Store → R (Option Int)) : TO := fun σ H Q => ∃ M ρ E S, EnvR G H (Av M ρ S) ρ σ E ∧ Sim G M H ρ S ∧ Got G W M σ ρ S H (m E S) fun o S' => ∀ H', Step ρ S H S' H' → Sim G M H' ρ S' → Q o H'
theorem PO_imp {e : Option Expr} {t t' : TO} (h : PO X e t) (f : ∀ σ H Q, t' σ H Q → t σ H Q) : PO X e t' := ⟨fun p s σ H Q I q => h.run p s σ H Q I (f σ H Q q)⟩
theorem pt_none' : PO X none (tPt (G := G) (W := W) (evPart none)) := PO_imp po_none fun σ H Q ⟨M, ρ, E, S, hE, hS, g⟩ => g H Step.refl hS
theorem pt_some' {m : Sm} (h : PE X e (tI G W m.ev)) : PO X (some e) (tPt (G := G) (W := W) (evPart (some m))) := by
  refine PO_imp (po_some h) fun σ H Q ⟨M, ρ, E, S, hE, hS, g⟩ => ⟨M, ρ, E, S, hE, hS, (Got.bind g).imp fun v S1 g x H1 t1 o1 => ?_⟩
  match v, g, o1 with
  | .d (.int i), g, o1 =>
    have r := o1.d
    cases r
    exact ⟨i, rfl, g H1 t1 o1.sim⟩
theorem ev_slc {ma : Sm} {ml mh : Option Sm} {lo hi : Option Expr} {p2 : Pos} (hG : G.K = X.K) (ha : PE X a (tI G W ma.ev)) (hl : PO X lo (tPt (G := G) (W := W) (evPart ml))) (hh : PO X hi (tPt (G := G) (W := W) (evPart mh))) :
    PE X (.Subscript a (.Slice lo hi none p2) pos) (tI G W fun E S => (ma.ev E S).bind fun v S1 => (evPart ml E S1).bind fun l S2 => (evPart mh E S2).bind fun h S3 => R.of ((v.peek S3).bind fun x => slcD x l h) S3) := by
  refine PE_imp (pe_slice (sl_D hG) ha hl hh) fun σ H Q ⟨M, ρ, E, S, hE, hS, g⟩ => ⟨M, ρ, E, S, hE, hS, (Got.bind g).imp fun v S1 g x H1 t1 o1 => ?_⟩
  refine ⟨M, ρ, E, S1, hE.step t1, o1.sim, ((Got.bind g).later t1).imp fun l S2 g H2 t2 s2 => ?_⟩
  have t12 := t1.trans t2
  refine ⟨M, ρ, E, S2, hE.step t12, s2, ((Got.bind g).later t12).imp fun h S3 g H3 t3 s3 => ?_⟩
  obtain ⟨r, er, q⟩ := of_some g
  obtain ⟨dx, e1, er⟩ := Option.bind_eq_some_iff.mp er
  refine ⟨Av M ρ S3, dx, r, s3.fit, ((o1.ar.step t2).step t3).peek s3 e1, er, fun w H' hr => ?_⟩
  obtain ⟨t4, o4⟩ := hr.out s3
  have t5 := t12.trans t3
  exact q w H' (t5.trans t4) (o4.later t5 hS)
/-- built-in functions -/
theorem imp_bi {ms : List Sm} {b : BI} (σ : L2.St) (H : Hp) (Q : VK) : tI G W (fun E S => (evAll ms E S).bind fun vs S1 => R.of ((peeks S1 vs).bind (biD b)) S1) σ H Q → tCB (rDn G (biD b)) (tAs G W (evAll ms)) σ H Q := by
  intro ⟨M, ρ, E, S, hE, hS, g⟩
  refine ⟨M, ρ, E, S, hE, hS, (Got.bind g).imp fun xs S1 g vs H1 t1 s1 r => ?_⟩
  obtain ⟨y, ey, q⟩ := of_some g
  obtain ⟨ds, e1, e2⟩ := Option.bind_eq_some_iff.mp ey
  refine ⟨Av M ρ S1, ds, y, s1.fit, ARs.peeks s1 r e1, e2, fun w H' hr => ?_⟩
  obtain ⟨t2, o2⟩ := hr.out s1
  exact q w H' (t1.trans t2) (o2.later t1 hS)
theorem ev_bi {ms : List Sm} {b : BI} {p : Pos} {x : Str} (hx : x = Str.ofString b.id) (hG : G.K = X.K) (hc : b.cool = false → X.calm = true) (hu : X.A.units + 100 < cLine) (hg : X.A.guards = some []) (hgl : Gl X x) (hm : X.mg x = none)
    (h : PA X (a :: es) (tAs G W (evAll ms))) (hd : (x == ("__debug__" : Str)) = false) (he : starEach (a :: es) X.env = (false, eval a X.env) :: starEach es X.env) (hpl : (backTo pos (starEach es X.env)).any (·.1) = false) :
    PE X (.Call (.Name x p) (a :: es) [] pos) (tI G W fun E S => (evAll ms E S).bind fun vs S1 => R.of ((peeks S1 vs).bind (biD b)) S1) := by
  have hn : x ≠ "__name__" := by subst hx; cases b <;> decide +kernel
  have hb := BI.boot b
  rw [← hx] at hb
  have ok := bi_ok (X := X) (G := G) hG b hc hu hg
  unfold BI.val at hb ok
  by_cases z : b.ty = true
  · rw [if_pos z] at hb ok
    exact PE_imp (pe_callTy ok hgl hm hb h hn hd he hpl) imp_bi
  · rw [if_neg z] at hb ok
    exact PE_imp (pe_callB ok hgl hm hb h hn hd he hpl) imp_bi
end
end Mi

set_option maxHeartbeats 4000000
/-! defs, calls, targets, comprehensions -/
namespace Mi
open PySem PySem.Spec PyProof.Rows L2

/-! ### what a def promises, where no guard is set -/
structure FnG (P : Program) (w : World) (K : PySem.W.Frag) (mg : Str → Option Value) (base : Heap) (k : Nat) (f : Addr) (fd : FuncData) (ps : List Str) (sp : Sp) : Prop where
  len : ∀ vs H Q E, sp vs H Q E → vs.length = ps.length
  run : ∀ (A : Around) (outer : List PySem.Env) (s : Shared) (H : Hp) (args : Args) (us : List Value) (vs : List V) (Q : VK) (E : XK), Room k A → A.guards = some [] → Env0 P w K mg base A outer s H →
    BindsTo s fd args (ps.zip us) → Vals vs us → sp vs H Q E → codeAny (model P w) A (.call (.ref f) args) (CR (L2.CX P w) outer P w H s Q E) s
theorem FnG.mono {P : Program} {w : World} {K : PySem.W.Frag} {mg : Str → Option Value} {base : Heap} {j k : Nat} {f : Addr} {fd : FuncData} {ps : List Str} {sp : Sp} (F : FnG P w K mg base j f fd ps sp) (h : j ≤ k) : FnG P w K mg base k f fd ps sp :=
  ⟨F.len, fun A outer s H args us vs Q E hr => F.run A outer s H args us vs Q E (hr.mono h)⟩
section
variable {X : Cx} {W : WX} {k : Nat} {f : Addr} {fd : FuncData} {ps : List Str} {sp : Sp}
theorem run_g {pins : List (Addr × Obj)} {σ : L2.St} {H : Hp} {s : Shared} {Q : VK} {us : List Value} {vs : List V} (F : FnG X.prog X.w X.K X.mg X.base k f fd ps sp) (hr : Room k X.A) (hg : X.A.guards = some []) (hb : Binds X.K fd ps []) (tk : Takes X W)
    (I : Inv X pins σ H s) (r : Vals vs us) (h : sp vs H Q (WE W σ)) : wpAny (model X.prog X.w) X.A (call (.ref f) us) (EP X pins σ Q) X.xe s := by
  have hl : (us ++ []).length = ps.length := by rw [List.append_nil, ← r.length]; exact F.len _ _ _ _ h
  have b := hb s us I.kIn hl
  rw [List.append_nil] at b
  refine wpAny_call (codeAny_mono (F.run X.A X.stack s H ⟨us, []⟩ us vs Q (WE W σ) hr hg I.env0 b r h) fun r s' q => ?_)
  match r, q with
  | .error e, q => exact passAt tk σ pins H s e s' I q
  | .ok (.ret u), q => exact I.after q
end
theorem fn_g {P : Program} {w : World} {K : PySem.W.Frag} {mg : Str → Option Value} {base : Heap} {k : Nat} {f : Addr} {x qual : Str} {st : Stmt} {fd : FuncData} {N ps : List Str} {sp : Sp} (F : Fun K x qual st f fd) (S : FnScope N ps (defScope st)) (len : ∀ vs H Q E, sp vs H Q E → vs.length = ps.length)
    (body : ∀ (cdv : Value) (A : Around) (outer : List PySem.Env) (s : Shared) (H : Hp) (vs : List V) (Q : VK) (E : XK), Room k (A.deeper (envOfC qual (defScope st) s.heap.objs.size f cdv)) → A.guards = some [] → sp vs H Q E →
      ∃ t, PSs (cxOf (L2.CX P w) P w K mg base N qual (defScope st) f cdv A outer s H E) (defBody st) t ∧ t { nx := fun _ H' => Q .non H', rt := Q } (start N vs) H) : FnG P w K mg base (k + 1) f fd ps sp := by
  obtain ⟨oc, od, kV, doc, pm, an, cdv, ct, osl, rfl, lk, hcd⟩ := F.ex
  refine ⟨len, fun A outer s H args us vs Q E hr hg e0 hb r hsp => ?_⟩
  have KX : K.In s.heap := e0.mod.kin.keeps fun b o e => (e0.bs b o e).1
  have lim : s.heap.NoLimit := e0.mod.nolimit.keeps fun b o e => (e0.bs b o e).1
  have kinds : ∀ y ∈ ps.zip us, (defScope st).names.lookup y.1 = some .local ∨ ((defScope st).names.lookup y.1 = some .cell ∧ ((cellsFrom (s.heap.objs.size + 1) (defScope st).names []).lookup y.1).isSome = true) := fun ⟨n, v⟩ hy =>
    (S.par n (List.of_mem_zip hy).1).imp id fun q => ⟨q, PySem.W.cellsFrom_some _ _ _ (.inl q)⟩
  refine codeAny_call_function hr.depth (KX _ _ lk) rfl S.co S.gen rfl (PySem.W.codeRec_of KX hcd) (hb _ _ _ _ ?_)
  refine wpAny_newFunctionEnv_cells S.kind kinds fun env he s1 z => ?_
  subst he
  refine ⟨lim.keeps z.toInCall.keep, codeAny_func ?_⟩
  obtain ⟨t, ht, hq⟩ := body cdv A outer s H vs Q E (hr.deeper _) hg hsp
  have I := inv_start (CX := L2.CX P w) (P := P) (w := w) (mg := mg) (E := E) S hr.hd e0 (len _ _ _ _ hsp) r z
  refine wpAny_mono (ht.run [] s1 (start N vs) H _ I hq) (fun fl s' hs => ?_) fun e s' hs => hs
  match fl, hs with
  | .ret u, ⟨v, σ', H', J, rv, q⟩ => exact ⟨v, H', J.os, J.bare, J.base, J.hok, rv, q⟩
  | .next, ⟨σ', H', J, q⟩ => exact ⟨.non, H', J.os, J.bare, J.base, J.hok, rfl, q⟩
  | .brk, ⟨_, _, _, q⟩ => exact q.elim
  | .cont, ⟨_, _, _, q⟩ => exact q.elim

/-- the promise that a function of the small language stands for -/
def spM (G : Gb) (F : List Val → Store → R Val) : Sp := fun vs H Q E => ∃ M ρ S xs, Sim G M H ρ S ∧ Paired (VR G H (Av M ρ S) ρ) vs xs ∧ Got G (fun cls d _ H => E cls d H) M [] ρ S H (F xs S) fun x S' => ∀ v H', Step ρ S H S' H' → Out G M H ρ S' v H' x → Q v H'
theorem got_slots {G : Gb} {W W' : WX} {σ σ' : L2.St} {M : Addr → Prop} {ρ : List Addr} {S : Store} {H : Hp} {α : Type} {r : R α} {P : α → Store → Prop} (h : ∀ cls d H, W cls d σ H → W' cls d σ' H) (g : Got G W M σ ρ S H r P) : Got G W' M σ' ρ S H r P := by
  cases r with
  | ok x S' => exact g
  | ex c a S' => exact fun cls d H' t s e => h _ _ _ (g cls d H' t s e)
  | no => exact g
section
variable {G : Gb} {W : WX} {X : Cx} {e a b c : Expr} {es : List Expr} {pos p : Pos}
theorem ev_call {ms : List Sm} {F : List Val → Store → R Val} {k : Nat} {f : Addr} {x : Str} {fd : FuncData} {ps : List Str} (hF : FnG X.prog X.w X.K X.mg X.base k f fd ps (spM G F)) (hr : Room k X.A) (hg : X.A.guards = some []) (hb : Binds X.K fd ps []) (tk : Takes X W)
    (hgl : Gl X x) (hm : X.mg x = some (.ref f)) (hk : PySem.W.keepIn X.K (.ref f) = true) (hdb : (x == ("__debug__" : Str)) = false) (h : PA X es (tAs G W (evAll ms))) (hn : es = [] → ms = [])
    (he : ∀ a r, es = a :: r → starEach es X.env = (false, eval a X.env) :: starEach r X.env ∧ (backTo pos (starEach r X.env)).any (·.1) = false) :
    PE X (.Call (.Name x p) es [] pos) (tI G W fun E S => (evAll ms E S).bind fun vs S1 => (R.of (argsOf vs) S1).bind fun ws S1 => F ws S1) := by
  have fin : ∀ {pins : List (Addr × Obj)} {σ : L2.St} {H : Hp} {s : Shared} {Q : VK} {us : List Value} {vs : List V} {M : Addr → Prop} {ρ : List Addr} {S S1 : Store} {H1 : Hp} {E : Env} {xs : List Val}, Sim G M H ρ S → Inv X pins σ H1 s → Vals vs us → Step ρ S H S1 H1 → Sim G M H1 ρ S1 → ARs G H1 (Av M ρ S1) ρ vs xs →
      Got G W M σ ρ S H ((R.of (argsOf xs) S1).bind fun ws S1 => F ws S1) (fun x S' => ∀ v H', Step ρ S H S' H' → Out G M H ρ S' v H' x → Q v H') → wpAny (model X.prog X.w) X.A (call (.ref f) us) (EP X pins σ Q) X.xe s := by
    intro pins σ H s Q us vs M ρ S S1 H1 E xs hS I r t1 s1 rs g
    obtain ⟨ws, ew, g⟩ := of_some (Got.bind g)
    refine run_g hF hr hg hb tk I r ⟨M, ρ, S1, ws, s1, ARs.args rs ew, ?_⟩
    exact got_slots (fun _ _ _ h => h) ((g.later t1).imp fun x S2 q v H2 t2 o2 => q v H2 (t1.trans t2) (o2.later t1 hS))
  refine ⟨fun pins s σ H Q I ⟨M, ρ, E, S, hE, hS, g⟩ => ?_⟩
  refine wpAny_Call_Name_kw (ld_glob I hgl hm ?_ hdb)
  have run := fun (pos : Pos) => h.run pos pins s σ H (fun vs H1 => ∃ xs S1, Step ρ S H S1 H1 ∧ Sim G M H1 ρ S1 ∧ ARs G H1 (Av M ρ S1) ρ vs xs ∧ Got G W M σ ρ S H ((R.of (argsOf xs) S1).bind fun ws S1 => F ws S1) (fun x S' => ∀ v H', Step ρ S H S' H' → Out G M H ρ S' v H' x → Q v H')) I
    ⟨M, ρ, E, S, hE, hS, (Got.bind g).imp fun xs S1 g vs H1 t1 s1 r => ⟨xs, S1, t1, s1, r, g⟩⟩
  cases es with
  | nil =>
    have z := hn rfl
    subst z
    refine PySem.W.callWith_K0 I.kIn hk ?_
    exact fin (E := E) (xs := []) hS I .nil Step.refl hS .nil (Got.bind g)
  | cons a r =>
    obtain ⟨he1, he2⟩ := he a r rfl
    refine PySem.W.callWith_K (h₀ := X.base) I.ok.mod.kin hk (thn (run pos) fun us s1 ⟨vs, H1, I1, r1, xs, S1, t1, sm, ar, g⟩ => ⟨I1.kIn, ?_⟩) he1 he2
    exact fin (E := E) hS I1 r1 t1 sm ar g
end

/-! ### slots -/
theorem wipe_set (σ : L2.St) (i : Nat) (x : Option V) : ∀ vs : List Nat, wipe (σ.set i x) vs = if i ∈ vs then wipe σ vs else (wipe σ vs).set i x
  | [] => by simp [wipe]
  | v :: vs => by
    show (wipe (σ.set i x) vs).set v none = if i ∈ v :: vs then (wipe σ vs).set v none else ((wipe σ vs).set v none).set i x
    rw [wipe_set σ i x vs]
    by_cases h : i ∈ vs
    · rw [if_pos h, if_pos (List.mem_cons_of_mem _ h)]
    · rw [if_neg h]
      by_cases e : i = v
      · subst e
        rw [if_pos List.mem_cons_self, List.set_set]
      · rw [if_neg (by simp only [List.mem_cons, not_or]; exact ⟨e, h⟩), List.set_comm _ _ e]
theorem wipe_none (σ : L2.St) (v : Nat) : ∀ {vs : List Nat}, v ∈ vs → (wipe σ vs).set v none = wipe σ vs
  | w :: vs, h => by
    show ((wipe σ vs).set w none).set v none = (wipe σ vs).set w none
    by_cases e : v = w
    · subst e; rw [List.set_set]
    · rw [List.set_comm _ _ (Ne.symm e), wipe_none σ v ((List.mem_cons.mp h).resolve_left e)]
theorem wipe_sub (σ : L2.St) (vs : List Nat) : ∀ us : List Nat, (∀ v ∈ us, v ∈ vs) → wipe (wipe σ us) vs = wipe σ vs
  | [], _ => rfl
  | u :: us, h => by
    show wipe ((wipe σ us).set u none) vs = wipe σ vs
    rw [wipe_set, if_pos (h u List.mem_cons_self)]
    exact wipe_sub σ vs us fun v hv => h v (List.mem_cons_of_mem _ hv)
section
variable {G : Gb} {H H' : Hp} {N N' : Addr → Prop} {ρ : List Addr} {σ : L2.St} {E : Env}
theorem EnvR.mono (h : ∀ a o, H a = some o → ¬ N a → H' a = some o) (n : ∀ a, N' a → N a ∨ H a = none) (r : EnvR G H N ρ σ E) : EnvR G H' N' ρ σ E :=
  ⟨r.len, fun i x e => let ⟨v, h1, h2⟩ := r.val i x e; ⟨v, h1, h2.mono h n⟩⟩
theorem EnvR.set {v : V} {x : Val} {i : Nat} (r : EnvR G H N ρ σ E) (h : VR G H N ρ v x) : EnvR G H N ρ (σ.set i (some v)) (E.set i (some x)) := by
  refine ⟨by rw [List.length_set, List.length_set]; exact r.len, fun j y e => ?_⟩
  by_cases z : i = j
  · subst z
    have hi : i < E.length := by
      have q := (List.getElem?_eq_some_iff.mp e).1
      rwa [List.length_set] at q
    rw [List.getElem?_set_self hi] at e
    cases e
    exact ⟨v, List.getElem?_set_self (by rw [r.len]; exact hi), h⟩
  · rw [List.getElem?_set_ne z] at e ⊢
    exact r.val j y e
theorem EnvR.wipe (r : EnvR G H N ρ σ E) : ∀ vs : List Nat, EnvR G H N ρ (L2.wipe σ vs) (wipeE E vs)
  | [] => r
  | v :: vs => by
    have q := r.wipe vs
    refine ⟨by show ((L2.wipe σ vs).set v none).length = ((wipeE E vs).set v none).length; rw [List.length_set, List.length_set]; exact q.len, fun j y e => ?_⟩
    show ∃ u, ((L2.wipe σ vs).set v none)[j]? = some (some u) ∧ _
    have e : ((wipeE E vs).set v none)[j]? = some (some y) := e
    by_cases z : v = j
    · subst z
      by_cases hi : v < (wipeE E vs).length
      · rw [List.getElem?_set_self hi] at e; cases e
      · rw [List.getElem?_eq_none (by rw [List.length_set]; omega)] at e; cases e
    · rw [List.getElem?_set_ne z] at e ⊢
      exact q.val j y e
end

/-! ### targets -/
def tTg (G : Gb) (t : Tg) : TG := fun v σ H Q => ∃ N ρ x E E', DR G H N v x ∧ EnvR G H N ρ σ E ∧ asgT t x E = some E' ∧ ∀ σ', EnvR G H N ρ σ' E' → (∀ vs, (∀ i ∈ t.slots, i ∈ vs) → wipe σ' vs = wipe σ vs) → Q σ' H
def tTgs (G : Gb) (ts : List Tg) : TGs := fun vs σ H Q => ∃ N ρ xs E E', DRs G H N vs xs ∧ EnvR G H N ρ σ E ∧ asgTs ts xs E = some E' ∧ ∀ σ', EnvR G H N ρ σ' E' → (∀ us, (∀ i ∈ slotsL ts, i ∈ us) → wipe σ' us = wipe σ us) → Q σ' H
/-- a name that may be stored -/
def sto (sc : Scope) (x : Str) : Bool := sc.names.lookup x == some .local || sc.names.lookup x == some .cell
mutual
def chkT (N : List Str) (sc : Scope) : Tg → Expr → Bool
  | .nm i, .Name x _ => N[i]? == some x && sto sc x
  | .seq ts, .Tuple es _ _ => chkTs N sc ts es
  | _, _ => false
def chkTs (N : List Str) (sc : Scope) : List Tg → List Expr → Bool
  | [], [] => true
  | t :: ts, e :: es => chkT N sc t e && chkTs N sc ts es
  | _, _ => false
end
/-- the names that the context lets be stored -/
def Stores (X : Cx) (sc : Scope) : Prop := ∀ x, sto sc x = true → Loc X.env.scope x ∧ (X.fn x = true ∨ X.env.scope.names.lookup x = some .local)
section
variable {G : Gb} {X : Cx} {sc : Scope}
theorem PG_imp {e : Expr} {t t' : TG} (h : PG X e t) (f : ∀ v σ H Q, t' v σ H Q → t v σ H Q) : PG X e t' := ⟨fun p s σ H v u Q I r q => h.run p s σ H v u Q I r (f v σ H Q q)⟩
theorem PGs_imp {e : List Expr} {t t' : TGs} (h : PGs X e t) (f : ∀ v σ H Q, t' v σ H Q → t v σ H Q) : PGs X e t' := ⟨fun p s σ H v u Q I r q => h.run p s σ H v u Q I r (f v σ H Q q)⟩
theorem PG_or {e : Expr} {t t' : TG} (h : PG X e t) (h' : PG X e t') : PG X e (fun v σ H Q => t v σ H Q ∨ t' v σ H Q) := ⟨fun p s σ H v u Q I r q => q.elim (h.run p s σ H v u Q I r) (h'.run p s σ H v u Q I r)⟩
theorem each_len (N : List Str) (env : PySem.Env) : ∀ (ts : List Tg) (es : List Expr), chkTs N sc ts es = true → (assignEach es env).length = ts.length ∧ (assignEach es env).findIdx? (·.1) = none
  | [], [], _ => ⟨rfl, rfl⟩
  | t :: ts, e :: es, h => by
    have h := Bool.and_eq_true_iff.mp (show (chkT N sc t e && chkTs N sc ts es) = true from h)
    obtain ⟨l1, l2⟩ := each_len N env ts es h.2
    have one : assignEach (e :: es) env = (false, assign e env) :: assignEach es env := by
      cases e <;> first | rfl | (cases t <;> exact absurd (show false = true from h.1) (by decide))
    rw [one]
    exact ⟨by rw [List.length_cons, l1]; rfl, by rw [List.findIdx?_cons, l2]; rfl⟩
mutual
theorem pg_tg (hG : G.K = X.K) (hc : X.calm = true) (hN : X.N.Nodup) (hst : Stores X sc) : ∀ (t : Tg) (e : Expr), chkT X.N sc t e = true → PG X e (tTg G t)
  | .nm i, .Name x p, h => by
    have h := Bool.and_eq_true_iff.mp (show (X.N[i]? == some x && sto sc x) = true from h)
    obtain ⟨h1, h2⟩ := hst x h.2
    refine PG_imp (pg_name hN (beq_iff_eq.mp h.1) h1 h2) fun v σ H Q ⟨N, ρ, d, E, E', r, hE, e1, q⟩ => ?_
    obtain ⟨z, rfl⟩ := of_if (show (if i < E.length then some (E.set i (some (.d d))) else none) = some E' from e1)
    refine q _ (hE.set (.d r)) fun vs hv => ?_
    rw [wipe_set, if_pos (hv i (List.mem_singleton.mpr rfl))]
  | .seq ts, .Tuple es kk p, h => by
    have h : chkTs X.N sc ts es = true := h
    obtain ⟨l1, l2⟩ := each_len X.N X.env ts es h
    have hs := pg_tgs hG hc hN hst ts es h
    refine PG_imp (PG_or (pg_tup hc hs l1 l2) (pg_lst hc hs l1 l2)) fun v σ H Q ⟨N, ρ, d, E, E', r, hE, e1, q⟩ => ?_
    have len : ∀ {ts : List Tg} {xs : List D} {E E' : Env}, asgTs ts xs E = some E' → xs.length = ts.length := by
      intro ts
      induction ts with
      | nil => intro xs E E' h; cases xs with
        | nil => rfl
        | cons x xs => exact absurd h (by unfold asgTs; simp)
      | cons t ts ih => intro xs E E' h; cases xs with
        | nil => exact absurd h (by unfold asgTs; simp)
        | cons x xs =>
          obtain ⟨E1, _, h2⟩ := Option.bind_eq_some_iff.mp (show (asgT t x E).bind (fun E' => asgTs ts xs E') = some E' from h)
          rw [List.length_cons, List.length_cons, ih h2]
    cases d with
    | tup xs =>
      have e1 : asgTs ts xs E = some E' := e1
      obtain ⟨a, vs, rfl, h1, h2, _⟩ := r.tupR
      exact .inl ⟨a, vs, rfl, hG ▸ h1, by rw [h2.len]; exact len e1, N, ρ, xs, E, E', h2, hE, e1, q⟩
    | lst xs =>
      have e1 : asgTs ts xs E = some E' := e1
      obtain ⟨a, vs, rfl, h1, _, h2⟩ := r.listR
      exact .inr ⟨a, vs, rfl, .inl h1, by rw [h2.len]; exact len e1, N, ρ, xs, E, E', h2, hE, e1, q⟩
    | _ => exact absurd e1 (by unfold asgT; simp)
theorem pg_tgs (hG : G.K = X.K) (hc : X.calm = true) (hN : X.N.Nodup) (hst : Stores X sc) : ∀ (ts : List Tg) (es : List Expr), chkTs X.N sc ts es = true → PGs X es (tTgs G ts)
  | [], [], _ => PGs_imp pgs_nil fun vs σ H Q ⟨N, ρ, xs, E, E', r, hE, e1, q⟩ => by
    cases xs with
    | nil => cases e1; cases r; exact ⟨rfl, q σ hE fun _ _ => rfl⟩
    | cons x xs => exact absurd e1 (by unfold asgTs; simp)
  | t :: ts, e :: es, h => by
    have h := Bool.and_eq_true_iff.mp (show (chkT X.N sc t e && chkTs X.N sc ts es) = true from h)
    have one : (assignEach (e :: es) X.env).map (·.2) = assign e X.env :: (assignEach es X.env).map (·.2) := by
      cases e <;> first | rfl | (cases t <;> exact absurd (show false = true from h.1) (by decide))
    refine PGs_imp (pgs_cons (pg_tg hG hc hN hst t e h.1) (pg_tgs hG hc hN hst ts es h.2) one) fun vs σ H Q ⟨N, ρ, xs, E, E', r, hE, e1, q⟩ => ?_
    cases xs with
    | nil => exact absurd e1 (by unfold asgTs; simp)
    | cons x xs =>
      cases r with
      | cons r1 r2 =>
        obtain ⟨E1, h1, h2⟩ := Option.bind_eq_some_iff.mp (show (asgT t x E).bind (fun E' => asgTs ts xs E') = some E' from e1)
        refine ⟨_, _, rfl, N, ρ, x, E, E1, r1, hE, h1, fun σ1 hE1 w1 => ⟨N, ρ, xs, E1, E', r2, hE1, h2, fun σ2 hE2 w2 => q σ2 hE2 fun us hu => ?_⟩⟩
        rw [w2 us fun i hi => hu i (List.mem_append_right _ hi), w1 us fun i hi => hu i (List.mem_append_left _ hi)]
end
end
end Mi

set_option maxHeartbeats 4000000
/-! comprehensions -/
namespace Mi
open PySem PySem.Spec PyProof.Rows L2

abbrev WN : WX := fun _ _ _ _ => False
section
variable {G : Gb} {W : WX} {M : Addr → Prop} {σ : L2.St} {ρ : List Addr} {S S1 S2 : Store} {H H' : Hp} {N : Addr → Prop} {D : Addr}
theorem got_calm {α β : Type} {r : R α} {f : α → Store → R β} {P : β → Store → Prop} (h : Got G W M σ ρ S H (r.calm.bind f) P) : ∃ y S2, r = .ok y S2 ∧ Got G W M σ ρ S H (f y S2) P := by
  cases r with
  | ok y S2 => exact ⟨y, S2, rfl, h⟩
  | ex c a S2 => exact h.elim
  | no => exact h.elim
theorem bind_ok {α β : Type} {r : R α} {f : α → Store → R β} {y : β} {S2 : Store} (h : r.bind f = .ok y S2) : ∃ x S1, r = .ok x S1 ∧ f x S1 = .ok y S2 := by
  cases r with
  | ok x S1 => exact ⟨x, S1, rfl, h⟩
  | ex c a S1 => cases h
  | no => cases h
theorem of_ok {α : Type} {o : Option α} {y : α} {S S2 : Store} (h : R.of o S = .ok y S2) : o = some y ∧ S2 = S := by
  cases o with
  | none => cases h
  | some a => cases h; exact ⟨rfl, rfl⟩
/-- an object that is met nowhere is written -/
theorem Sim.upd {o : HO} (s : Sim G M H ρ S) (n : M D) : Sim G M (upd H D o) ρ S := by
  have keep : ∀ a o', H a = some o' → ¬ Av M ρ S a → L2.upd H D o a = some o' := fun a o' e z => by rw [upd_ne (fun q => z (by rw [q]; exact .inr n))]; exact e
  have there : ∀ a, H a ≠ none → L2.upd H D o a ≠ none := fun a z => by
    by_cases q : a = D
    · subst q; rw [upd_same]; simp
    · rw [upd_ne q]; exact z
  refine ⟨s.len, s.uni, fun l a c e1 e2 => ?_, fun l a e => there a (s.all l a e), fun a e => there a (s.apart a e), s.ap⟩
  have ne : a ≠ D := fun q => s.ap l a e1 (q ▸ n)
  have r := s.cell l a c e1 e2
  cases c with
  | lst xs => obtain ⟨vs, h1, h2⟩ := r; exact ⟨vs, by rw [upd_ne ne]; exact h1, DRs.mono keep (fun _ z => .inl z) _ h2⟩
  | dct ks vs => obtain ⟨us, h1, z, h2⟩ := r; exact ⟨us, by rw [upd_ne ne]; exact h1, z, DRs.mono keep (fun _ z => .inl z) _ h2⟩
  | gone => trivial
/-- how things stand within a comprehension -/
structure InC (G : Gb) (M : Addr → Prop) (ρ : List Addr) (σ : L2.St) (E : Env) (vs : List Nat) (D : Addr) (S1 : Store) (H1 : Hp) (Sx : Store) (H : Hp) : Prop where
  env : EnvR G H (Av (And1 M D) ρ Sx) ρ (L2.wipe σ vs) (wipeE E vs)
  sim : Sim G (And1 M D) H ρ Sx
  st : Step ρ S1 H1 Sx H
  new : H1 D = none
  no : ∀ l : Nat, ρ[l]? ≠ some D
theorem InC.start {E : Env} {vs : List Nat} (hE : EnvR G H (Av M ρ S) ρ σ E) (s : Sim G M H ρ S) (h : H D = none) {o : HO} : InC G M ρ σ E vs D S H S (upd H D o) := by
  have no : ∀ l : Nat, ρ[l]? ≠ some D := fun l e => s.all l D e h
  have sm : Same H (upd H D o) := same_upd h
  have n : ∀ a, Av (And1 M D) ρ S a → Av M ρ S a ∨ H a = none := fun a z => (av_and.mp z).imp id fun e => by rw [e]; exact h
  exact ⟨(hE.mono (fun a o e _ => sm a o e) n).wipe vs, s.mono sm h (by rw [upd_same]; simp), .same sm, h, no⟩
end
section
variable {G : Gb} {W : WX} {M : Addr → Prop} {σ : L2.St} {ρ : List Addr} {S S1 S2 Sx : Store} {H H' H1 : Hp} {D : Addr} {E : Env} {vs : List Nat}
theorem InC.it {J : It} {xs : List Mi.D} (c : InC G M ρ σ E vs D S1 H1 Sx H) (s1 : Sim G M H1 ρ S1) (it : ItOk G M ρ S1 H1 J xs) (i : Nat) :
    (xs.length = i → J.stop i H) ∧ ∀ x, xs[i]? = some x → J.go i H ∧ ∀ v H3, J.yld i H v H3 → Same H H3 ∧ DR G H3 (Av (And1 M D) ρ Sx) v x :=
  it.2 i H _ (fun a o e n => c.st.keep' a o e n) fun a z => ⟨(av_and.mp z).elim (fun z => .inl (c.st.av a z)) fun e => .inr (e ▸ c.new), c.sim.fit a z⟩
theorem InC.same (c : InC G M ρ σ E vs D S1 H1 Sx H) (h : Same H H') : InC G M ρ σ E vs D S1 H1 Sx H' :=
  ⟨c.env.mono (fun a o e _ => h a o e) fun _ z => .inl z, c.sim.same h, c.st.trans (.same h), c.new, c.no⟩
theorem InC.step (c : InC G M ρ σ E vs D S1 H1 Sx H) (t : Step ρ Sx H S2 H') (s : Sim G (And1 M D) H' ρ S2) : InC G M ρ σ E vs D S1 H1 S2 H' :=
  ⟨c.env.step t, s, c.st.trans t, c.new, c.no⟩
theorem InC.upd (c : InC G M ρ σ E vs D S1 H1 Sx H) {o : HO} : InC G M ρ σ E vs D S1 H1 Sx (upd H D o) := by
  have n : Av (And1 M D) ρ Sx D := .inr (.inr rfl)
  refine ⟨c.env.mono (fun a o' e z => by rw [upd_ne (fun q => z (by rw [q]; exact n))]; exact e) fun _ z => .inl z, c.sim.upd (.inr rfl), ⟨fun a o' e z => ?_, c.st.live⟩, c.new, c.no⟩
  have ne : a ≠ D := fun q => by rw [q, c.new] at e; cases e
  rw [upd_ne ne]; exact c.st.keep a o' e z
theorem InC.at (c : InC G M ρ σ E vs D S1 H1 Sx H) (t : Step ρ Sx H S2 H') {o : HO} (e : H D = some o) : H' D = some o := t.keep D o e fun ⟨l, z⟩ => c.no l z.1
/-- the end: the new object is one's own -/
theorem InC.out (c : InC G M ρ σ E vs D S1 H1 S2 H) (s1 : Sim G M H1 ρ S1) {x : Cell} (l : x.lives) (r : CellR G H (Av (And1 M D) ρ S2) D x) : Out G M H1 ρ S2 (.ref D) H (.own x) :=
  ⟨D, rfl, c.new, fun z => s1.fit D (c.st.av D z) c.new, c.no, l, c.sim, r⟩
end

section
variable {G : Gb} {W : WX} {mi me mk mv : Sm} {mfs : List Sm} {tg : Tg} {vs : List Nat}
/-- one turn's target and tests, whatever comes behind -/
theorem turn_one {M : Addr → Prop} {σ : L2.St} {ρ : List Addr} {S1 Sx Sb : Store} {H1 H3 : Hp} {D : Addr} {E E' : Env} {x : Mi.D} {b : Bool} {v : V} {K : L2.St → Hp → Prop} {P : Hp → Prop}
    (hsl : ∀ i ∈ tg.slots, i ∈ vs) (c : InC G M ρ σ E vs D S1 H1 Sx H3) (dr : DR G H3 (Av (And1 M D) ρ Sx) v x) (e1 : asgT tg x (wipeE E vs) = some E') (e2 : tsAll mfs E' Sx = .ok b Sb)
    (h : ∀ σ2 H4, EnvR G H4 (Av (And1 M D) ρ Sb) ρ σ2 E' → Step ρ Sx H3 Sb H4 → InC G M ρ σ E vs D S1 H1 Sb H4 → (if b = true then K σ2 H4 else P H4)) :
    tTg G tg v (wipe σ vs) H3 fun σ2 H2 => wipe σ2 vs = wipe σ vs ∧ tT G WN (tsAll mfs) σ2 H2 fun b H3 => if b = true then K σ2 H3 else P H3 := by
  refine ⟨_, ρ, x, _, E', dr, c.env, e1, fun σ' hE' hw => ⟨?_, And1 M D, ρ, E', Sx, hE', c.sim, ?_⟩⟩
  · rw [hw vs hsl]; exact wipe_sub σ vs vs fun _ z => z
  · rw [e2]
    exact fun H4 t4 s4 => h σ' H4 (hE'.step t4) t4 (c.step t4 s4)
theorem imp_lc (hsl : ∀ i ∈ tg.slots, i ∈ vs) (σ : L2.St) (H : Hp) (Q : VK) : tI G W (lcM mi me mfs tg vs) σ H Q → tLc (tIt G W mi.it) (tTg G tg) (tT G WN (tsAll mfs)) (tI G WN me.ev) vs σ H Q := by
  intro ⟨M, ρ, E, S, hE, hS, g⟩
  refine ⟨M, ρ, E, S, hE, hS, (Got.bind g).imp fun xs S1 g J H1 t1 s1 it D hD => ?_⟩
  obtain ⟨ys, S2, er, g⟩ := got_calm g
  have hE1 := hE.step t1
  refine ⟨fun i m H' => m = xs.length - i ∧ i ≤ xs.length ∧ ∃ acc Sx va, turns tg vs (tsAll mfs) (strict me) E (xs.drop i) acc Sx = .ok ys S2 ∧ acc.length ≤ i ∧ H' D = some (.lst va) ∧ DRs G H' (Av (And1 M D) ρ Sx) va acc ∧ InC G M ρ σ E vs D S1 H1 Sx H',
    ⟨xs.length, rfl, Nat.zero_le _, [], S1, [], er, Nat.le_refl _, upd_same, .nil, .start hE1 s1 hD⟩, ?_⟩
  rintro i m H' ⟨rfl, hi, acc, Sx, va, et, hl, eD, ra, c⟩
  have hit := c.it s1 it i
  by_cases hlt : i < xs.length
  · right
    obtain ⟨h1, h2⟩ := hit.2 xs[i] (List.getElem?_eq_getElem hlt)
    refine ⟨h1, fun H' => i + 1 ≤ xs.length ∧ ∃ acc Sx va, turns tg vs (tsAll mfs) (strict me) E (xs.drop (i + 1)) acc Sx = .ok ys S2 ∧ acc.length ≤ i + 1 ∧ H' D = some (.lst va) ∧ DRs G H' (Av (And1 M D) ρ Sx) va acc ∧ InC G M ρ σ E vs D S1 H1 Sx H',
      fun H'' ⟨k1, k2⟩ => ⟨xs.length - (i + 1), by omega, rfl, k1, k2⟩, fun v H3 y => ?_⟩
    obtain ⟨sm, dr⟩ := h2 v H3 y
    have c3 := c.same sm
    have eD3 := sm _ _ eD
    have ra3 := ra.same sm
    rw [List.drop_eq_getElem_cons hlt] at et
    cases e1 : asgT tg xs[i] (wipeE E vs) with
    | none => unfold turns at et; rw [e1] at et; cases et
    | some E' =>
      unfold turns at et
      rw [e1] at et
      obtain ⟨b, Sb, e2, et⟩ := bind_ok et
      refine turn_one hsl c3 dr e1 e2 fun σ2 H4 hE4 t4 c4 => ?_
      have eD4 := c3.at t4 eD3
      have ra4 := ra3.step t4
      cases b with
      | false =>
        rw [if_neg Bool.false_ne_true] at et ⊢
        exact ⟨hlt, acc, Sb, va, et, by omega, eD4, ra4, c4⟩
      | true =>
        rw [if_pos rfl] at et ⊢
        obtain ⟨y, Sy, e3, et⟩ := bind_ok et
        obtain ⟨w, Sw, e4, e5⟩ := bind_ok (show (me.ev E' Sb).bind (fun v S1 => R.of v.dat S1) = .ok y Sy from e3)
        obtain ⟨e6, rfl⟩ := of_ok e5
        refine ⟨And1 M D, ρ, E', Sb, hE4, c4.sim, ?_⟩
        rw [e4]
        intro u H5 t5 o5
        have c5 := c4.step t5 o5.sim
        have eD5 := c4.at t5 eD4
        have ra5 := ra4.step t5
        have du := o5.ar.dat e6
        have n : Av (And1 M D) ρ Sy D := .inr (.inr rfl)
        refine ⟨va, eD5, by rw [ra.len]; exact Nat.lt_of_lt_of_le (Nat.lt_of_le_of_lt hl hlt) it.1, hlt, acc ++ [y], Sy, va ++ [u], et, by rw [List.length_append]; exact Nat.succ_le_succ hl, upd_same, ?_, c5.upd⟩
        exact DRs.mono (fun a o' e z => by rw [upd_ne (fun q => z (by rw [q]; exact n))]; exact e) (fun _ z => .inl z) _ (ra5.append (.cons du .nil))
  · left
    have ei : i = xs.length := by omega
    subst ei
    rw [List.drop_length] at et
    unfold turns at et
    cases et
    exact ⟨hit.1 rfl, g _ H' (t1.trans c.st) ((c.out s1 (x := .lst ys) trivial ⟨va, eD, ra⟩).later t1 hS)⟩
theorem ev_lc {X : Cx} {elt tgt iter : Expr} {ifs : List Expr} {scope : Scope} {own : List (Str × Nat)} {pos : Pos} (hc : X.calm = true) (hN : X.N.Nodup) (hi : PI X tgt iter (tIt G W mi.it)) (ok : BlkOk X.N X.env.scope scope own) (hv : own.map (·.2) = vs) (hsl : ∀ i ∈ tg.slots, i ∈ vs)
    (hg : ∀ (s : Shared) (H : Hp) (C : Addr) (cl : List (Str × Addr)) (fp : List Addr), PG (X.blk s H scope (compEnvC scope cl C X.env) fp) tgt (tTg G tg))
    (ht : ∀ (s : Shared) (H : Hp) (C : Addr) (cl : List (Str × Addr)) (fp : List Addr), PTs (X.blk s H scope (compEnvC scope cl C X.env) fp) ifs (tT G WN (tsAll mfs)))
    (he : ∀ (s : Shared) (H : Hp) (C : Addr) (cl : List (Str × Addr)) (fp : List Addr), PE (X.blk s H scope (compEnvC scope cl C X.env) fp) elt (tI G WN me.ev)) (hs : ∀ x, foldedSetIterable iter X.env x = pure x) :
    PE X (.ListComp elt [⟨tgt, iter, ifs, 0⟩] scope pos) (tI G W (lcM mi me mfs tg vs)) := by
  subst hv
  exact PE_imp (pe_lc hc hN hi ok hg ht he hs) (imp_lc hsl)

/-! ### dicts -/
theorem put_rel {H : Hp} {N : Addr → Prop} {ks : List Key} {us : List V} {xs : List Mi.D} {k : Key} {v : V} {x : Mi.D} (l : ks.length = us.length) (r : DRs G H N us xs) (h : DR G H N v x) :
    ∃ us', putK (ks.zip us) k v = (putD k x ks xs).1.zip us' ∧ (putD k x ks xs).1.length = us'.length ∧ DRs G H N us' (putD k x ks xs).2 ∧ (putD k x ks xs).1.length ≤ ks.length + 1 := by
  have an : ∀ {ks : List Key} {us : List V}, ks.length = us.length → ((ks.zip us).any fun kv => decide (kv.1 = k)) = ks.any fun q => decide (q = k) := by
    intro ks
    induction ks with
    | nil => intro us _; simp
    | cons a ks ih => intro us l; cases us with
      | nil => simp at l
      | cons u us => rw [List.zip_cons_cons, List.any_cons, List.any_cons, ih (by simpa using l)]
  unfold putD putK
  rw [an l]
  by_cases z : (ks.any fun q => decide (q = k)) = true
  · rw [if_pos z, if_pos z]
    refine ⟨(ks.zip us).map fun p => if p.1 = k then v else p.2, ?_, ?_, ?_, Nat.le_succ _⟩
    · have : ∀ {ks : List Key} {us : List V}, ks.length = us.length → (ks.zip us).map (fun kv => if kv.1 = k then (kv.1, v) else kv) = ks.zip ((ks.zip us).map fun p => if p.1 = k then v else p.2) := by
        intro ks
        induction ks with
        | nil => intro us _; simp
        | cons a ks ih => intro us l; cases us with
          | nil => simp at l
          | cons u us =>
            rw [List.zip_cons_cons, List.map_cons, List.map_cons, List.zip_cons_cons, ih (by simpa using l)]
            by_cases e : a = k
            · rw [if_pos e, if_pos e]
            · rw [if_neg e, if_neg e]
      exact this l
    · show ks.length = _
      rw [List.length_map, List.length_zip]; omega
    · have : ∀ {ks : List Key} {us : List V} {xs : List Mi.D}, ks.length = us.length → DRs G H N us xs → DRs G H N ((ks.zip us).map fun p => if p.1 = k then v else p.2) ((ks.zip xs).map fun p => if p.1 = k then x else p.2) := by
        intro ks
        induction ks with
        | nil => intro us xs _ _; exact .nil
        | cons a ks ih => intro us xs l r; cases r with
          | nil => exact .nil
          | cons h1 r =>
            rw [List.zip_cons_cons, List.zip_cons_cons, List.map_cons, List.map_cons]
            refine .cons ?_ (ih (by simpa using l) r)
            by_cases e : a = k
            · rw [if_pos e, if_pos e]; exact h
            · rw [if_neg e, if_neg e]; exact h1
      exact this l r
  · rw [if_neg z, if_neg z]
    refine ⟨us ++ [v], ?_, ?_, r.append (.cons h .nil), ?_⟩
    · show ks.zip us ++ [(k, v)] = (ks ++ [k]).zip (us ++ [v])
      rw [List.zip_append l]; rfl
    · simp [l]
    · simp
theorem imp_dc (hsl : ∀ i ∈ tg.slots, i ∈ vs) (σ : L2.St) (H : Hp) (Q : VK) : tI G W (dcM mi mk mv mfs tg vs) σ H Q → tDc (tIt G W mi.it) (tTg G tg) (tT G WN (tsAll mfs)) (tI G WN mk.ev) (tI G WN mv.ev) vs σ H Q := by
  intro ⟨M, ρ, E, S, hE, hS, g⟩
  refine ⟨M, ρ, E, S, hE, hS, (Got.bind g).imp fun xs S1 g J H1 t1 s1 it D hD => ?_⟩
  obtain ⟨ys, S2, er, g⟩ := got_calm g
  have hE1 := hE.step t1
  refine ⟨fun i m H' => m = xs.length - i ∧ i ≤ xs.length ∧ ∃ acc Sx va, turnsD tg vs (tsAll mfs) (strict2 mk mv) E (xs.drop i) acc Sx = .ok ys S2 ∧ acc.1.length ≤ i ∧ acc.1.length = va.length ∧ H' D = some (.dK (acc.1.zip va)) ∧ DRs G H' (Av (And1 M D) ρ Sx) va acc.2 ∧ InC G M ρ σ E vs D S1 H1 Sx H',
    ⟨xs.length, rfl, Nat.zero_le _, ([], []), S1, [], er, Nat.le_refl _, rfl, upd_same, .nil, .start hE1 s1 hD⟩, ?_⟩
  rintro i m H' ⟨rfl, hi, acc, Sx, va, et, hl, lz, eD, ra, c⟩
  have hit := c.it s1 it i
  by_cases hlt : i < xs.length
  · right
    obtain ⟨h1, h2⟩ := hit.2 xs[i] (List.getElem?_eq_getElem hlt)
    refine ⟨h1, fun H' => i + 1 ≤ xs.length ∧ ∃ acc Sx va, turnsD tg vs (tsAll mfs) (strict2 mk mv) E (xs.drop (i + 1)) acc Sx = .ok ys S2 ∧ acc.1.length ≤ i + 1 ∧ acc.1.length = va.length ∧ H' D = some (.dK (acc.1.zip va)) ∧ DRs G H' (Av (And1 M D) ρ Sx) va acc.2 ∧ InC G M ρ σ E vs D S1 H1 Sx H',
      fun H'' ⟨k1, k2⟩ => ⟨xs.length - (i + 1), by omega, rfl, k1, k2⟩, fun v H3 y => ?_⟩
    obtain ⟨sm, dr⟩ := h2 v H3 y
    have c3 := c.same sm
    have eD3 := sm _ _ eD
    have ra3 := ra.same sm
    rw [List.drop_eq_getElem_cons hlt] at et
    cases e1 : asgT tg xs[i] (wipeE E vs) with
    | none => unfold turnsD at et; rw [e1] at et; cases et
    | some E' =>
      unfold turnsD at et
      rw [e1] at et
      obtain ⟨b, Sb, e2, et⟩ := bind_ok et
      refine turn_one hsl c3 dr e1 e2 fun σ2 H4 hE4 t4 c4 => ?_
      have eD4 := c3.at t4 eD3
      have ra4 := ra3.step t4
      cases b with
      | false =>
        rw [if_neg Bool.false_ne_true] at et ⊢
        exact ⟨hlt, acc, Sb, va, et, by omega, lz, eD4, ra4, c4⟩
      | true =>
        rw [if_pos rfl] at et ⊢
        obtain ⟨q, Sy, e3, et⟩ := bind_ok et
        obtain ⟨w, Sw, e4, e5⟩ := bind_ok (show (mk.ev E' Sb).bind (fun x S1 => (mv.ev E' S1).bind fun y S2 => R.of ((x.dat.bind asKey).bind fun q => y.dat.map fun z => (q, z)) S2) = .ok q Sy from e3)
        obtain ⟨w2, Sw2, e6, e7⟩ := bind_ok e5
        obtain ⟨e8, rfl⟩ := of_ok e7
        obtain ⟨k, e9, e10⟩ := Option.bind_eq_some_iff.mp e8
        obtain ⟨dk, e11, e12⟩ := Option.bind_eq_some_iff.mp e9
        obtain ⟨dz, e13, rfl⟩ := Option.map_eq_some_iff.mp e10
        refine ⟨And1 M D, ρ, E', Sb, hE4, c4.sim, ?_⟩
        rw [e4]
        intro u H5 t5 o5
        have c5 := c4.step t5 o5.sim
        have eD5 := c4.at t5 eD4
        have ra5 := ra4.step t5
        have du : u = kV k := asKey_some (.dr (o5.ar.dat e11)) e12
        refine ⟨And1 M D, ρ, E', Sw, hE4.step t5, o5.sim, ?_⟩
        rw [e6]
        intro u2 H6 t6 o6
        have c6 := c5.step t6 o6.sim
        have eD6 := c5.at t6 eD5
        have ra6 := ra5.step t6
        have n : Av (And1 M D) ρ Sy D := .inr (.inr rfl)
        obtain ⟨us', p1, p2, p3, p4⟩ := put_rel (k := k) lz ra6 (o6.ar.dat e13)
        refine ⟨acc.1.zip va, k, du, eD6, by rw [List.length_zip]; exact Nat.lt_of_lt_of_le (Nat.lt_of_le_of_lt (Nat.le_trans (Nat.min_le_left _ _) hl) hlt) it.1, hlt, _, Sy, us', et, Nat.le_trans p4 (Nat.succ_le_succ hl), p2, by rw [p1]; exact upd_same, ?_, c6.upd⟩
        exact DRs.mono (fun a o' e z => by rw [upd_ne (fun q => z (by rw [q]; exact n))]; exact e) (fun _ z => .inl z) _ p3
  · left
    have ei : i = xs.length := by omega
    subst ei
    rw [List.drop_length] at et
    unfold turnsD at et
    cases et
    exact ⟨hit.1 rfl, g _ H' (t1.trans c.st) ((c.out s1 (x := .dct ys.1 ys.2) trivial ⟨va, eD, lz, ra⟩).later t1 hS)⟩
theorem ev_dc {X : Cx} {kx vx tgt iter : Expr} {ifs : List Expr} {scope : Scope} {own : List (Str × Nat)} {pos : Pos} (hc : X.calm = true) (hN : X.N.Nodup) (hi : PI X tgt iter (tIt G W mi.it)) (ok : BlkOk X.N X.env.scope scope own) (hv : own.map (·.2) = vs) (hsl : ∀ i ∈ tg.slots, i ∈ vs)
    (hg : ∀ (s : Shared) (H : Hp) (C : Addr) (cl : List (Str × Addr)) (fp : List Addr), PG (X.blk s H scope (compEnvC scope cl C X.env) fp) tgt (tTg G tg))
    (ht : ∀ (s : Shared) (H : Hp) (C : Addr) (cl : List (Str × Addr)) (fp : List Addr), PTs (X.blk s H scope (compEnvC scope cl C X.env) fp) ifs (tT G WN (tsAll mfs)))
    (hk : ∀ (s : Shared) (H : Hp) (C : Addr) (cl : List (Str × Addr)) (fp : List Addr), PE (X.blk s H scope (compEnvC scope cl C X.env) fp) kx (tI G WN mk.ev))
    (he : ∀ (s : Shared) (H : Hp) (C : Addr) (cl : List (Str × Addr)) (fp : List Addr), PE (X.blk s H scope (compEnvC scope cl C X.env) fp) vx (tI G WN mv.ev)) (hs : ∀ x, foldedSetIterable iter X.env x = pure x) :
    PE X (.DictComp kx vx [⟨tgt, iter, ifs, 0⟩] scope pos) (tI G W (dcM mi mk mv mfs tg vs)) := by
  subst hv
  exact PE_imp (pe_dc hc hN hi ok hg ht hk he hs) (imp_dc hsl)
end
end Mi

set_option maxHeartbeats 4000000
/-! statements -/
namespace Mi
open PySem PySem.Spec PyProof.Rows L2

/-- from one moment to a later one, cells may have come -/
structure Far (ρ : List Addr) (S : Store) (H : Hp) (ρ' : List Addr) (S' : Store) (H' : Hp) : Prop where
  keep : ∀ a o, H a = some o → ¬ Live ρ S a → H' a = some o
  live : ∀ a, Live ρ' S' a → Live ρ S a ∨ H a = none
  pre : ∀ (l : Nat) a, ρ[l]? = some a → ρ'[l]? = some a
  new : ∀ (l : Nat) a, ρ.length ≤ l → ρ'[l]? = some a → H a = none
section
variable {G : Gb} {W : WX} {M : Addr → Prop} {σ : L2.St} {ρ ρ1 ρ2 : List Addr} {S S1 S2 : Store} {H H1 H2 : Hp} {E : Env}
theorem Step.far (t : Step ρ S H S1 H1) : Far ρ S H ρ S1 H1 := ⟨t.keep, fun a z => .inl (t.live a z), fun _ _ e => e, fun l a h e => absurd (List.getElem?_eq_some_iff.mp e).1 (by omega)⟩
theorem Far.refl : Far ρ S H ρ S H := Step.refl.far
theorem Far.nothing (a : Far ρ S H ρ1 S1 H1) {b : Addr} (n : ¬ Live ρ S b) (e : H1 b = none) : H b = none := by
  cases q : H b with
  | none => rfl
  | some o => rw [a.keep b o q n] at e; cases e
theorem Far.trans (s1 : ∀ (l : Nat) a, ρ1[l]? = some a → H1 a ≠ none) (a : Far ρ S H ρ1 S1 H1) (b : Far ρ1 S1 H1 ρ2 S2 H2) : Far ρ S H ρ2 S2 H2 := by
  have back : ∀ c, H1 c = none → Live ρ S c ∨ H c = none := fun c e => by
    by_cases n : Live ρ S c
    · exact .inl n
    · exact .inr (a.nothing n e)
  refine ⟨fun c o e n => b.keep c o (a.keep c o e n) fun z => ?_, fun c z => (b.live c z).elim (a.live c) (back c), fun l c e => b.pre l c (a.pre l c e), fun l c hl e => ?_⟩
  · rcases a.live c z with q | q
    · exact n q
    · rw [e] at q; cases q
  · by_cases h : l < ρ1.length
    · have e1 : ρ1[l]? = some ρ1[l] := List.getElem?_eq_getElem h
      have e2 := b.pre l _ e1
      rw [e] at e2
      cases e2
      exact a.new l _ hl e1
    · have n1 := b.new l c (by omega) e
      rcases back c n1 with ⟨i, q, _⟩ | q
      · exact absurd n1 (s1 i c (a.pre i c q))
      · exact q
/-- what a statement's flow asks -/
def Fit3 (G : Gb) (M : Addr → Prop) (H : Hp) (D : Ends) (ρ' : List Addr) (σ' : L2.St) (E' : Env) (S' : Store) (H' : Hp) : Fl → Prop
  | .nx => EnvR G H' (Av M ρ' S') ρ' σ' E' → Sim G M H' ρ' S' → D.nx σ' H'
  | .bk => EnvR G H' (Av M ρ' S') ρ' σ' E' → Sim G M H' ρ' S' → D.bk σ' H'
  | .ct => EnvR G H' (Av M ρ' S') ρ' σ' E' → Sim G M H' ρ' S' → D.ct σ' H'
  | .rt x => ∀ v, Out G M H ρ' S' v H' x → D.rt v H'
def GotS (G : Gb) (W : WX) (M : Addr → Prop) (ρ : List Addr) (S : Store) (H : Hp) (D : Ends) : R (Fl × Env) → Prop
  | .ok p S' => ∀ ρ' σ' H', Far ρ S H ρ' S' H' → Fit3 G M H D ρ' σ' p.2 S' H' p.1
  | .ex c a S' => ∀ ρ' σ' cls d H', Far ρ S H ρ' S' H' → Sim G M H' ρ' S' → ExR G H' (Av M ρ' S') cls d c a → W cls d σ' H'
  | .no => False
def tS (G : Gb) (W : WX) (m : SM) : TS := fun D σ H => ∃ M ρ E S, EnvR G H (Av M ρ S) ρ σ E ∧ Sim G M H ρ S ∧ GotS G W M ρ S H D (m E S)
/-- later on -/
theorem Out.far {S' : Store} {v : V} {H' : Hp} {x : Val} (t : Far ρ S H ρ1 S1 H1) (s : Sim G M H ρ S) {ρ' : List Addr} (pre : ∀ (l : Nat) a, ρ1[l]? = some a → ρ'[l]? = some a) (h : Out G M H1 ρ' S' v H' x) : Out G M H ρ' S' v H' x := by
  cases x with
  | own c =>
    obtain ⟨p, e, hp, np, hn, r⟩ := h
    refine ⟨p, e, ?_, np, hn, r⟩
    cases q : H p with
    | none => rfl
    | some o =>
      by_cases l : Live ρ S p
      · obtain ⟨i, hi, _⟩ := l
        exact absurd (pre i p (t.pre i p hi)) (hn i)
      · rw [t.keep p o q l] at hp; cases hp
  | d x => exact h
  | ref l => exact h
  | err c a => exact h
theorem GotS.later {D : Ends} {r : R (Fl × Env)} (t : Far ρ S H ρ1 S1 H1) (s : Sim G M H ρ S) (s1 : Sim G M H1 ρ1 S1) (h : GotS G W M ρ S H D r) : GotS G W M ρ1 S1 H1 D r := by
  cases r with
  | ok p S' =>
    intro ρ' σ' H' t'
    have q := h ρ' σ' H' (t.trans s1.all t')
    obtain ⟨f, E'⟩ := p
    cases f with
    | nx => exact q
    | bk => exact q
    | ct => exact q
    | rt x => exact fun v o => q v (o.far t s t'.pre)
  | ex c a S' => exact fun ρ' σ' cls d H' t' => h ρ' σ' cls d H' (t.trans s1.all t')
  | no => exact h
/-- an expression ahead of a statement's end: W is asked with the slots as they are -/
theorem GotS.ex {α : Type} {D : Ends} {r : R α} {f : α → Store → R (Fl × Env)} (h : GotS G W M ρ S H D (r.bind f)) : Got G W M σ ρ S H r fun x S' => GotS G W M ρ S H D (f x S') := by
  cases r with
  | ok x S' => exact h
  | ex c a S' => exact fun cls d H' t s e => h ρ σ cls d H' t.far s e
  | no => exact h
theorem GotS.of {α : Type} {D : Ends} {o : Option α} {f : α → Store → R (Fl × Env)} (h : GotS G W M ρ S1 H D ((R.of o S).bind f)) : ∃ a, o = some a ∧ GotS G W M ρ S1 H D (f a S) := by
  cases o with
  | none => exact h.elim
  | some a => exact ⟨a, rfl, h⟩
end

section
variable {G : Gb} {W : WX} {X : Cx} {st : Stmt} {sts : List Stmt} {e : Expr} {pos : Pos}
theorem PS_imp {t t' : TS} (h : PS X st t) (f : ∀ D σ H, t' D σ H → t D σ H) : PS X st t' := ⟨fun p s σ H D I q => h.run p s σ H D I (f D σ H q)⟩
theorem PSs_imp {t t' : TS} (h : PSs X sts t) (f : ∀ D σ H, t' D σ H → t D σ H) : PSs X sts t' := ⟨fun p s σ H D I q => h.run p s σ H D I (f D σ H q)⟩
theorem PS_or {t t' : TS} (h : PS X st t) (h' : PS X st t') : PS X st (fun D σ H => t D σ H ∨ t' D σ H) := ⟨fun p s σ H D I q => q.elim (h.run p s σ H D I) (h'.run p s σ H D I)⟩
theorem b_nil {Fs : Fns} {Gs : List D} {n : Nat} : PSs X [] (tS G W (semB Fs Gs n [])) := PSs_imp pss_nil fun D σ H ⟨M, ρ, E, S, hE, hS, g⟩ => g ρ σ H Far.refl hE hS
theorem b_cons {a b : SM} (h1 : PS X st (tS G W a)) (h2 : PSs X sts (tS G W b)) : PSs X (st :: sts) (tS G W (andThen a b)) := by
  refine PSs_imp (pss_cons h1 h2) fun D σ H ⟨M, ρ, E, S, hE, hS, g⟩ => ⟨M, ρ, E, S, hE, hS, ?_⟩
  unfold andThen at g
  cases q : a E S with
  | no => rw [q] at g; exact g.elim
  | ex c x S' => rw [q] at g; exact g
  | ok p S1 =>
    rw [q, R.bind_ok] at g
    obtain ⟨f, E1⟩ := p
    cases f with
    | nx => exact fun ρ1 σ1 H1 t hE1 s1 => ⟨M, ρ1, E1, S1, hE1, s1, g.later t hS s1⟩
    | bk => exact g
    | ct => exact g
    | rt x => exact g
/-- the ghost step: a cell is data from now on -/
theorem b_frz {i : Nat} {b : SM} (h2 : PSs X sts (tS G W b)) : PSs X sts (tS G W (andThen (fun E S => match getV E i with
    | some (.ref l) => (R.of ((S[l]?).bind Cell.dat) S).bind fun x S => .ok (.nx, E.set i (some (.d x))) (S.set l .gone)
    | _ => .no) b)) := by
  refine PSs_imp h2 fun D σ H ⟨M, ρ, E, S, hE, hS, g⟩ => ?_
  unfold andThen at g
  cases q : getV E i with
  | none => simp only [q] at g; exact g.elim
  | some v =>
    cases v with
    | ref l =>
      simp only [q] at g
      obtain ⟨x, ex, g⟩ : ∃ x, (S[l]?).bind Cell.dat = some x ∧ GotS G W M ρ S H D (b (E.set i (some (.d x))) (S.set l .gone)) := by
        cases z : (S[l]?).bind Cell.dat with
        | none => rw [z] at g; exact g.elim
        | some x => rw [z] at g; exact ⟨x, rfl, g⟩
      obtain ⟨c, e1, e2⟩ := Option.bind_eq_some_iff.mp ex
      have hl : l < S.length := (List.getElem?_eq_some_iff.mp e1).1
      have ei : E[i]? = some (some (.ref l)) := by
        unfold getV at q
        cases z : E[i]? with
        | none => rw [z] at q; cases q
        | some o => rw [z] at q; cases o with
          | none => cases q
          | some y => cases q; rfl
      obtain ⟨v, h1, h2⟩ := hE.val i _ ei
      cases h2 with
      | ref h2 =>
        rename_i a
        -- what lives afterwards lived ahead
        have live : ∀ b, Live ρ (S.set l .gone) b → Live ρ S b := fun b ⟨j, z1, c', z2, z3⟩ => by
          by_cases z : l = j
          · subst z; rw [List.getElem?_set_self hl] at z2; cases z2; exact z3.elim
          · rw [List.getElem?_set_ne z] at z2; exact ⟨j, z1, c', z2, z3⟩
        have lv : c.lives := by cases c with
          | lst _ => trivial
          | dct _ _ => trivial
          | gone => cases e2
        have dead : ¬ Live ρ (S.set l .gone) a := fun ⟨j, z1, c', z2, z3⟩ => by
          by_cases z : l = j
          · subst z; rw [List.getElem?_set_self hl] at z2; cases z2; exact z3.elim
          · rw [List.getElem?_set_ne z] at z2
            exact z (hS.uni l j a ⟨h2, c, e1, lv⟩ ⟨z1, c', z2, z3⟩)
        have less : ∀ b, Av M ρ (S.set l .gone) b → Av M ρ S b := fun b z => z.imp (live b) id
        have s1 : Sim G M H ρ (S.set l .gone) := by
          refine ⟨by rw [List.length_set]; exact hS.len, fun j k b z1 z2 => ?_, fun j b c' z1 z2 => ?_, hS.all, hS.apart, hS.ap⟩
          · have up : ∀ j, At ρ (S.set l .gone) j b → At ρ S j b := fun j ⟨z1, c', z2, z3⟩ => by
              by_cases z : l = j
              · subst z; rw [List.getElem?_set_self hl] at z2; cases z2; exact z3.elim
              · rw [List.getElem?_set_ne z] at z2; exact ⟨z1, c', z2, z3⟩
            exact hS.uni j k b (up j z1) (up k z2)
          · by_cases z : l = j
            · subst z; rw [List.getElem?_set_self hl] at z2; cases z2; trivial
            · rw [List.getElem?_set_ne z] at z2; exact (hS.cell j b c' z1 z2).less less
        have dr : DR G H (Av M ρ (S.set l .gone)) (.ref a) x := by
          have n : ¬ Av M ρ (S.set l .gone) a := fun z => z.elim dead (hS.ap l a h2)
          have r := (hS.cell l a c h2 e1).less less
          cases c with
          | lst xs => cases e2; obtain ⟨vs, r1, r2⟩ := r; exact .lst (.inl r1) n r2
          | dct ks vs => cases e2; obtain ⟨us, r1, z, r2⟩ := r; exact .dct (.inl r1) n z r2
          | gone => cases e2
        have hE1 : EnvR G H (Av M ρ (S.set l .gone)) ρ σ (E.set i (some (.d x))) := by
          have hE0 := hE.mono (fun _ _ e _ => e) fun b z => .inl (less b z)
          refine ⟨by rw [List.length_set]; exact hE0.len, fun j y e => ?_⟩
          by_cases z : i = j
          · subst z
            rw [List.getElem?_set_self (List.getElem?_eq_some_iff.mp ei).1] at e
            cases e
            exact ⟨_, h1, .d dr⟩
          · rw [List.getElem?_set_ne z] at e
            exact hE0.val j y e
        have t : Far ρ S H ρ (S.set l .gone) H := ⟨fun _ _ e _ => e, fun b z => .inl (live b z), fun _ _ e => e, fun j b h e => absurd (List.getElem?_eq_some_iff.mp e).1 (by omega)⟩
        exact ⟨M, ρ, _, _, hE1, s1, g.later t hS s1⟩
    | _ => simp only [q] at g; exact g.elim

/-! ### small statements -/
theorem s_ex {m : Sm} (h : PE X e (tI G W m.ev)) (hs : swapsWith e none pos.line X.env = pure false) : PS X (.Expr e pos) (tS G W fun E S => (m.ev E S).bind fun _ S1 => .ok (.nx, E) S1) :=
  PS_imp (ps_expr h hs) fun D σ H ⟨M, ρ, E, S, hE, hS, g⟩ => ⟨M, ρ, E, S, hE, hS, g.ex.imp fun x S1 g v H1 t o => g ρ σ H1 t.far (hE.step t) o.sim⟩
theorem s_ret {m : Sm} (h : PE X e (tI G W m.ev)) : PS X (.Return (some e) pos) (tS G W fun E S => (m.ev E S).bind fun v S1 => .ok (.rt v, E) S1) :=
  PS_imp (ps_ret h) fun D σ H ⟨M, ρ, E, S, hE, hS, g⟩ => ⟨M, ρ, E, S, hE, hS, g.ex.imp fun x S1 g v H1 t o => g ρ σ H1 t.far v o⟩
theorem s_retN : PS X (.Return none pos) (tS G W fun E S => .ok (.rt (.d .non), E) S) :=
  PS_imp ps_retN fun D σ H ⟨M, ρ, E, S, hE, hS, g⟩ => g ρ σ H Far.refl .non ⟨hS, .d .non⟩
theorem s_pass : PS X (.Pass pos) (tS G W fun E S => .ok (.nx, E) S) := PS_imp ps_pass fun D σ H ⟨M, ρ, E, S, hE, hS, g⟩ => g ρ σ H Far.refl hE hS
theorem s_brk : PS X (.Break pos) (tS G W fun E S => .ok (.bk, E) S) := PS_imp ps_break fun D σ H ⟨M, ρ, E, S, hE, hS, g⟩ => g ρ σ H Far.refl hE hS
theorem s_cont : PS X (.Continue pos) (tS G W fun E S => .ok (.ct, E) S) := PS_imp ps_continue fun D σ H ⟨M, ρ, E, S, hE, hS, g⟩ => g ρ σ H Far.refl hE hS
theorem s_iff {m : Sm} {x y : List Stmt} {a b : SM} (h : PT X e (tT G W m.ts)) (ha : PSs X x (tS G W a)) (hb : PSs X y (tS G W b)) : PS X (.If e x y pos) (tS G W fun E S => (m.ts E S).bind fun c S1 => if c then a E S1 else b E S1) := by
  refine PS_imp (ps_if h ha hb) fun D σ H ⟨M, ρ, E, S, hE, hS, g⟩ => ⟨M, ρ, E, S, hE, hS, g.ex.imp fun c S1 g H1 t s1 => ?_⟩
  cases c with
  | true => exact ⟨M, ρ, E, S1, hE.step t, s1, GotS.later t.far hS s1 g⟩
  | false => exact ⟨M, ρ, E, S1, hE.step t, s1, GotS.later t.far hS s1 g⟩
/-- x = e, x a name -/
theorem imp_asg {i : Nat} {m : Sm} (D : Ends) (σ : L2.St) (H : Hp) : tS G W (fun E S => (m.ev E S).bind fun v S1 => lift (v.arg.bind fun w => if i < E.length then some (E.set i (some w)) else none) S1) D σ H → tAsg (tI G W m.ev) (gName i) D σ H := by
  intro ⟨M, ρ, E, S, hE, hS, g⟩
  refine ⟨M, ρ, E, S, hE, hS, g.ex.imp fun x S1 g v H1 t o => ?_⟩
  obtain ⟨E', e1, g⟩ := GotS.of g
  obtain ⟨w, e2, e3⟩ := Option.bind_eq_some_iff.mp e1
  obtain ⟨z, rfl⟩ := of_if e3
  exact g ρ _ H1 t.far ((hE.step t).set (o.arg e2)) o.sim
/-- x = e, x a cell from now on -/
theorem imp_asgN {i : Nat} {m : Sm} (D : Ends) (σ : L2.St) (H : Hp) : tS G W (fun E S => (m.ev E S).bind fun v S1 => match v with
    | .own c => if i < E.length then .ok (.nx, E.set i (some (.ref S1.length))) (S1 ++ [c]) else .no
    | _ => .no) D σ H → tAsg (tI G W m.ev) (gName i) D σ H := by
  intro ⟨M, ρ, E, S, hE, hS, g⟩
  refine ⟨M, ρ, E, S, hE, hS, g.ex.imp fun x S1 g v H1 t o => ?_⟩
  cases x with
  | own c =>
    by_cases hi : i < E.length
    · simp only [if_pos hi] at g
      obtain ⟨p, rfl, hp, np, no, lv, s1, r⟩ := o
      have sl : ρ.length = S1.length := s1.len
      have live : ∀ a, Live (ρ ++ [p]) (S1 ++ [c]) a → Live ρ S1 a ∨ a = p := fun a ⟨l, z1, c', z2, z3⟩ => by
        by_cases hl : l < ρ.length
        · rw [List.getElem?_append_left hl] at z1
          rw [List.getElem?_append_left (by omega)] at z2
          exact .inl ⟨l, z1, c', z2, z3⟩
        · rw [List.getElem?_append_right (by omega)] at z1
          have e0 : l - ρ.length = 0 := by
            have := (List.getElem?_eq_some_iff.mp z1).1
            simp at this
            omega
          rw [e0] at z1
          exact .inr (by simpa using z1.symm)
      have lastA : (ρ ++ [p])[S1.length]? = some p := by rw [← sl, List.getElem?_append_right (Nat.le_refl _), Nat.sub_self]; rfl
      have lastC : (S1 ++ [c])[S1.length]? = some c := by rw [List.getElem?_append_right (Nat.le_refl _), Nat.sub_self]; rfl
      have liveP : Live (ρ ++ [p]) (S1 ++ [c]) p := ⟨S1.length, lastA, c, lastC, lv⟩
      have av : ∀ a, Av M (ρ ++ [p]) (S1 ++ [c]) a → Av (And1 M p) ρ S1 a := fun a z => by
        rcases z with z | z
        · exact (live a z).elim .inl fun e => .inr (.inr e)
        · exact .inr (.inl z)
      have s2 : Sim G M H1 (ρ ++ [p]) (S1 ++ [c]) := by
        have get : ∀ (l : Nat) a c', (ρ ++ [p])[l]? = some a → (S1 ++ [c])[l]? = some c' → (ρ[l]? = some a ∧ S1[l]? = some c') ∨ (l = S1.length ∧ a = p ∧ c' = c) := fun l a c' z1 z2 => by
          by_cases hl : l < ρ.length
          · rw [List.getElem?_append_left hl] at z1
            rw [List.getElem?_append_left (by omega)] at z2
            exact .inl ⟨z1, z2⟩
          · have hl2 : l = S1.length := by
              have := (List.getElem?_eq_some_iff.mp z2).1
              simp at this
              omega
            subst hl2
            rw [lastA] at z1
            rw [lastC] at z2
            cases z1; cases z2
            exact .inr ⟨rfl, rfl, rfl⟩
        refine ⟨by simp [sl], fun l k a ⟨z1, c1, z2, z3⟩ ⟨y1, c2, y2, y3⟩ => ?_, fun l a c' z1 z2 => ?_, fun l a e => ?_, fun a z => s1.apart a (.inl z), fun l a e z => ?_⟩
        · rcases get l a c1 z1 z2 with ⟨u1, u2⟩ | ⟨u1, u2, _⟩
          · rcases get k a c2 y1 y2 with ⟨w1, w2⟩ | ⟨w1, w2, _⟩
            · exact s1.uni l k a ⟨u1, c1, u2, z3⟩ ⟨w1, c2, w2, y3⟩
            · exact absurd (w2 ▸ u1) (no l)
          · rcases get k a c2 y1 y2 with ⟨w1, w2⟩ | ⟨w1, w2, _⟩
            · exact absurd (u2 ▸ w1) (no k)
            · rw [u1, w1]
        · rcases get l a c' z1 z2 with ⟨u1, u2⟩ | ⟨u1, u2, u3⟩
          · exact (s1.cell l a c' u1 u2).less av
          · rw [u2, u3]; exact r.less av
        · by_cases hl : l < ρ.length
          · rw [List.getElem?_append_left hl] at e
            exact s1.all l a e
          · rw [List.getElem?_append_right (by omega)] at e
            have e0 : l - ρ.length = 0 := by
              have := (List.getElem?_eq_some_iff.mp e).1
              simp at this
              omega
            rw [e0] at e
            have e : p = a := by simpa using e
            exact s1.apart a (.inr e.symm)
        · by_cases hl : l < ρ.length
          · rw [List.getElem?_append_left hl] at e
            exact s1.ap l a e (.inl z)
          · rw [List.getElem?_append_right (by omega)] at e
            have e0 : l - ρ.length = 0 := by
              have := (List.getElem?_eq_some_iff.mp e).1
              simp at this
              omega
            rw [e0] at e
            have e : p = a := by simpa using e
            exact np (.inr (e ▸ z))
      have far : Far ρ S H (ρ ++ [p]) (S1 ++ [c]) H1 := by
        refine ⟨t.keep, fun a z => (live a z).imp (t.live a) fun e => by rw [e]; exact hp, fun l a e => by rw [List.getElem?_append_left (List.getElem?_eq_some_iff.mp e).1]; exact e, fun l a hl e => ?_⟩
        rw [List.getElem?_append_right hl] at e
        have e0 : l - ρ.length = 0 := by
          have := (List.getElem?_eq_some_iff.mp e).1
          simp at this
          omega
        rw [e0] at e
        have e : p = a := by simpa using e
        rw [← e]; exact hp
      refine g _ _ H1 far ?_ s2
      have hE1 : EnvR G H1 (Av M (ρ ++ [p]) (S1 ++ [c])) (ρ ++ [p]) σ E := by
        refine ⟨hE.len, fun j y e => ?_⟩
        obtain ⟨u, k1, k2⟩ := hE.val j y e
        refine ⟨u, k1, ?_⟩
        cases k2 with
        | d k2 => exact .d (DR.mono t.keep' (fun a z => ((av a z).elim (fun z => .inl (t.av a (.inl z))) fun z => z.elim (fun z => .inl (.inr z)) fun e => .inr (by rw [e]; exact hp))) _ k2)
        | err h1 h2 h3 h4 h5 hH nd k2 =>
          have fa : ∀ a, Av M (ρ ++ [p]) (S1 ++ [c]) a → Av M ρ S a ∨ H a = none := fun a z => ((av a z).elim (fun z => .inl (t.av a (.inl z))) fun z => z.elim (fun z => .inl (.inr z)) fun e => .inr (by rw [e]; exact hp))
          exact .err h1 h2 h3 h4 h5 (t.keep' _ _ hH nd) (fun z => (fa _ z).elim nd fun e => by rw [hH] at e; cases e) (DR.mono t.keep' fa _ k2)
        | ref k2 => exact .ref (far.pre _ _ k2)
      exact hE1.set (.ref lastA)
    · simp only [if_neg hi] at g; exact g.elim
  | _ => exact g.elim
end
end Mi

set_option maxHeartbeats 4000000
/-! stores, loops -/
namespace Mi
open PySem PySem.Spec PyProof.Rows L2
section
variable {G : Gb} {W : WX} {M : Addr → Prop} {σ : L2.St} {ρ : List Addr} {S S1 : Store} {H H1 : Hp} {E : Env}
/-- a cell is written -/
theorem Sim.write {l : Nat} {a : Addr} {c c' : Cell} {o : HO} (s : Sim G M H ρ S) (h : ρ[l]? = some a) (e : S[l]? = some c) (lv : c.lives) (lv' : c'.lives) (r : CellR G (L2.upd H a o) (Av M ρ S) a c') :
    Sim G M (L2.upd H a o) ρ (S.set l c') ∧ Step ρ S H (S.set l c') (L2.upd H a o) := by
  have hl : l < S.length := (List.getElem?_eq_some_iff.mp e).1
  have la : Live ρ S a := ⟨l, h, c, e, lv⟩
  have at' : ∀ j b, At ρ (S.set l c') j b → At ρ S j b := fun j b ⟨z1, d, z2, z3⟩ => by
    by_cases z : l = j
    · subst z; exact ⟨z1, c, e, lv⟩
    · rw [List.getElem?_set_ne z] at z2; exact ⟨z1, d, z2, z3⟩
  have live : ∀ b, Live ρ (S.set l c') b → Live ρ S b := fun b ⟨j, z⟩ => ⟨j, at' j b z⟩
  have av : ∀ b, Av M ρ (S.set l c') b → Av M ρ S b := fun b z => z.imp (live b) id
  have keep : ∀ b o', H b = some o' → ¬ Live ρ S b → L2.upd H a o b = some o' := fun b o' q n => by rw [upd_ne (fun z => n (by rw [z]; exact la))]; exact q
  have there : ∀ b, H b ≠ none → L2.upd H a o b ≠ none := fun b z => by
    by_cases q : b = a
    · subst q; rw [upd_same]; simp
    · rw [upd_ne q]; exact z
  refine ⟨⟨by rw [List.length_set]; exact s.len, fun j k b z1 z2 => s.uni j k b (at' j b z1) (at' k b z2), fun j b d z1 z2 => ?_, fun j b z => there b (s.all j b z), fun b z => there b (s.apart b z), s.ap⟩, keep, live⟩
  by_cases z : l = j
  · subst z
    rw [List.getElem?_set_self hl] at z2
    cases z2
    rw [h] at z1
    cases z1
    exact r.less av
  · rw [List.getElem?_set_ne z] at z2
    have r2 := s.cell j b d z1 z2
    have k2 : ∀ b o', H b = some o' → ¬ Av M ρ S b → L2.upd H a o b = some o' := fun b o' q n => keep b o' q fun z => n (.inl z)
    have ne : d.lives → b ≠ a := fun dl q => z (s.uni l j a ⟨h, c, e, lv⟩ ⟨q ▸ z1, d, z2, dl⟩)
    cases d with
    | lst xs => obtain ⟨vs, h1, h2⟩ := r2; exact ⟨vs, by rw [upd_ne (ne trivial)]; exact h1, DRs.mono k2 (fun b z => .inl (av b z)) _ h2⟩
    | dct ks vs => obtain ⟨us, h1, l1, h2⟩ := r2; exact ⟨us, by rw [upd_ne (ne trivial)]; exact h1, l1, DRs.mono k2 (fun b z => .inl (av b z)) _ h2⟩
    | gone => trivial
theorem upd_keep {a : Addr} {o : HO} (la : Live ρ S a) : ∀ b o', H b = some o' → ¬ Av M ρ S b → L2.upd H a o b = some o' := fun b o' q n => by
  rw [upd_ne (fun z => n (.inl (by rw [z]; exact la)))]; exact q
theorem AR.refR {v : V} {l : Nat} {N : Addr → Prop} (r : AR G H N ρ v (.ref l)) : ∃ a, v = .ref a ∧ ρ[l]? = some a := by
  cases r with
  | ref h => exact ⟨_, rfl, h⟩
end

section
variable {G : Gb} {W : WX} {X : Cx} {st : Stmt} {sts : List Stmt} {e a b c : Expr} {es : List Expr} {pos p : Pos}
/-! ### o[i] = e -/
def tSetD : TSet := fun o i v H Q => rSetL o i v H Q ∨ ∃ a H4, o = .ref a ∧ DPut H a i v H4 ∧ Q H4
theorem set_D (hu : X.A.units + 1 < cLine) : PSet X tSetD := by
  intro pins s σ H o i v ov iv u Q I ro ri rv h
  rcases h with h | ⟨a, H4, rfl, g, q⟩
  · exact set_list pins s σ H o i v ov iv u Q I ro ri rv h
  · cases ro
    exact d_setItem hu I g ri rv fun s' I' => ⟨H4, I', q⟩
theorem imp_set {me mo mi : Sm} (D : Ends) (σ : L2.St) (H : Hp) : tS G W (fun E S => (me.ev E S).bind fun v S1 => (mo.ev E S1).bind fun l S2 => (mi.ev E S2).bind fun k S3 =>
      (R.of (v.dat.bind fun x => k.dat.bind fun y => setAt l y x S3) S3).bind fun S4 _ => .ok (.nx, E) S4) D σ H → tAsg (tI G W me.ev) (gSub (tI G W mo.ev) (tI G W mi.ev) tSetD) D σ H := by
  intro ⟨M, ρ, E, S, hE, hS, g⟩
  refine ⟨M, ρ, E, S, hE, hS, g.ex.imp fun x S1 g v H1 t1 o1 => ?_⟩
  have g := g.later t1.far hS o1.sim
  refine ⟨M, ρ, E, S1, hE.step t1, o1.sim, g.ex.imp fun l S2 g ov H2 t2 o2 => ?_⟩
  have g := g.later t2.far o1.sim o2.sim
  refine ⟨M, ρ, E, S2, (hE.step t1).step t2, o2.sim, g.ex.imp fun k S3 g iv H3 t3 o3 => ?_⟩
  have g := g.later t3.far o2.sim o3.sim
  obtain ⟨S4, e4, g⟩ := GotS.of g
  obtain ⟨dx, e1, e4⟩ := Option.bind_eq_some_iff.mp e4
  obtain ⟨dk, e2, e4⟩ := Option.bind_eq_some_iff.mp e4
  have s3 := o3.sim
  have dr := ((o1.ar.dat e1).step t2).step t3
  have kr := o3.ar.dat e2
  have hE3 := ((hE.step t1).step t2).step t3
  cases l with
  | ref j =>
    obtain ⟨a, rfl, ha⟩ := (o2.ar.step t3).refR
    unfold setAt at e4
    cases ec : S3[j]? with
    | none => simp only [ec] at e4; cases e4
    | some c =>
      simp only [ec] at e4
      have r := s3.cell j a c ha ec
      cases c with
      | lst xs =>
        cases dk with
        | int i =>
          obtain ⟨m, e5, rfl⟩ := Option.map_eq_some_iff.mp e4
          obtain ⟨vs, h1, h2⟩ := r
          have la : Live ρ S3 a := ⟨j, ha, _, ec, trivial⟩
          obtain ⟨s4, t4⟩ := s3.write (o := .lst (vs.set m v)) ha ec trivial trivial (c' := .lst (xs.set m dx)) ⟨_, upd_same, DRs.mono (upd_keep la) (fun _ z => .inl z) _ (h2.set dr m)⟩
          refine .inl ⟨a, vs, i, m, rfl, (TR.dr kr).int, h1, by rw [h2.len]; exact e5, ?_⟩
          exact g ρ σ _ t4.far (hE3.step t4) s4
        | _ => cases e4
      | dct ks vs =>
        obtain ⟨q, e5, e6⟩ := Option.bind_eq_some_iff.mp e4
        obtain ⟨z, rfl⟩ := of_if e6
        obtain ⟨us, h1, l1, h2⟩ := r
        have la : Live ρ S3 a := ⟨j, ha, _, ec, trivial⟩
        obtain ⟨us', p1, p2, p3, p4⟩ := put_rel (k := q) l1 h2 dr
        obtain ⟨s4, t4⟩ := s3.write (o := .dK (putK (ks.zip us) q v)) ha ec trivial trivial (c' := .dct (putD q dx ks vs).1 (putD q dx ks vs).2) ⟨us', by rw [p1]; exact upd_same, p2, DRs.mono (upd_keep la) (fun _ z => .inl z) _ p3⟩
        refine .inr ⟨a, _, rfl, ?_, g ρ σ _ t4.far (hE3.step t4) s4⟩
        rw [asKey_some (.dr kr) e5]
        exact DPut.k h1 (by rw [List.length_zip]; omega)
      | gone => cases e4
  | _ => cases e4

/-! ### xs.append(e) -/
theorem ev_app {ma : Sm} {ms : List Sm} {apos : Pos} (hG : G.K = X.K) (ha : PE X a (tI G W ma.ev)) (h : PA X (b :: es) (tAs G W (evAll ms))) (hbase : attributeBase a "append" X.env (eval a X.env) = eval a X.env)
    (hfew : ((backTo pos (starEach (b :: es) X.env)).all (fun x => !x.1) && (backToKw pos (keywordEach [] X.env)).all (fun x => x.1.isSome)
      && decide ((b :: es).length + ([] : List Keyword).length + (if ([] : List Keyword).isEmpty then 0 else 1) < 30)) = true) (hline : (apos.endLine == pos.line) = true) (hs : starEach (b :: es) X.env = (false, eval b X.env) :: starEach es X.env) (hpl : (backTo pos (starEach es X.env)).any (·.1) = false) :
    PE X (.Call (.Attribute a "append" apos) (b :: es) [] pos) (tI G W fun E S => (ma.ev E S).bind fun x S1 => (R.of (recv .append x S1) S1).bind fun _ S1 => (evAll ms E S1).bind fun vs S2 => (R.of (strictAll vs) S2).bind fun xs S2 => mtV .append x xs S2) := by
  refine PE_imp (pe_bm PySem.F.plainAttrs_list PySem.F.slot_list_append PySem.F.type_list_append mt_append ha h hbase hfew hline hs hpl) fun σ H Q ⟨M, ρ, E, S, hE, hS, g⟩ => ⟨M, ρ, E, S, hE, hS, (Got.bind g).imp fun x S1 g v H1 t1 o1 => ?_⟩
  obtain ⟨_, er, g⟩ := of_some (Got.bind g)
  cases x with
  | ref l =>
    obtain ⟨a', rfl, hl⟩ := o1.ar.refR
    have s1 := o1.sim
    have er : (match S1[l]? with
      | some (.lst _) => some ()
      | _ => none) = some () := er
    cases ec : S1[l]? with
    | none => rw [ec] at er; cases er
    | some c =>
      cases c with
      | lst zs =>
        obtain ⟨vs0, k1, _⟩ := s1.cell l a' _ hl ec
        refine ⟨.inl ⟨rfl, vs0, .inl (.inl k1)⟩, M, ρ, E, S1, hE.step t1, s1, ((Got.bind g).later t1).imp fun ws S2 g vs H2 t2 s2 r => ?_⟩
        obtain ⟨xs, e1, g⟩ := of_some (Got.bind g)
        have rs := ARs.strict r e1
        unfold mtV at g
        cases xs with
        | nil => exact g.elim
        | cons y rest => cases rest with
          | cons _ _ => exact g.elim
          | nil =>
            cases ed : S2[l]? with
            | none => simp only [ed] at g; exact g.elim
            | some c => cases c with
              | lst ys =>
                simp only [ed] at g
                by_cases z : ys.length < sizeLine
                · rw [if_pos z] at g
                  obtain ⟨us, h1, h2⟩ := s2.cell l a' _ hl ed
                  cases rs with
                  | cons dy rn =>
                    cases rn
                    rename_i u
                    have la : Live ρ S2 a' := ⟨l, hl, _, ed, trivial⟩
                    obtain ⟨s3, t3⟩ := s2.write (o := .lst (us ++ [u])) hl ed trivial trivial (c' := .lst (ys ++ [y])) ⟨_, upd_same, DRs.mono (upd_keep la) (fun _ z => .inl z) _ (h2.append (.cons dy .nil))⟩
                    exact ⟨a', us, u, rfl, rfl, h1, by rw [h2.len]; exact z, g _ _ ((t1.trans t2).trans t3) ⟨s3, .d .non⟩⟩
                · rw [if_neg z] at g; exact g.elim
              | dct _ _ => simp only [ed] at g; exact g.elim
              | gone => simp only [ed] at g; exact g.elim
      | dct _ _ => rw [ec] at er; cases er
      | gone => rw [ec] at er; cases er
  | _ => cases er

/-! ### a, b = e -/
theorem imp_asgS {ts : List Tg} {m : Sm} (D : Ends) (σ : L2.St) (H : Hp) : tS G W (fun E S => (m.ev E S).bind fun v S1 => lift (v.dat.bind fun x => asgT (.seq ts) x E) S1) D σ H → tAsg (tI G W m.ev) (tTg G (.seq ts)) D σ H := by
  intro ⟨M, ρ, E, S, hE, hS, g⟩
  refine ⟨M, ρ, E, S, hE, hS, g.ex.imp fun x S1 g v H1 t o => ?_⟩
  obtain ⟨E', e1, g⟩ := GotS.of g
  obtain ⟨d, e2, e3⟩ := Option.bind_eq_some_iff.mp e1
  exact ⟨_, ρ, d, E, E', o.ar.dat e2, hE.step t, e3, fun σ' hE' _ => g ρ σ' H1 t.far hE' o.sim⟩
theorem s_asgS {ts : List Tg} {m : Sm} {tg : Expr} (h : PE X e (tI G W m.ev)) (hg : PG X tg (tTg G (.seq ts))) (hs : swapsWithSole [tg] e pos.line X.env = pure false) (hw : swappedStores [tg] e X.env = pure none) (h1 : (assignEach [tg] X.env).map (·.2) = [assign tg X.env]) :
    PS X (.Assign [tg] e pos) (tS G W fun E S => (m.ev E S).bind fun v S1 => lift (v.dat.bind fun x => asgT (.seq ts) x E) S1) := PS_imp (ps_asg h hg hs hw h1) imp_asgS
theorem set_two {M : Addr → Prop} {ρ : List Addr} {S : Store} {H : Hp} {E' : Env} : ∀ {ns : List Nat} {xs : List Mi.D} {vs : List V} {σ : L2.St} {E : Env}, asgTs (ns.map .nm) xs E = some E' → DRs G H (Av M ρ S) vs xs → EnvR G H (Av M ρ S) ρ σ E → vs.length = ns.length ∧ EnvR G H (Av M ρ S) ρ ((ns.zip vs).foldl (fun s p => s.set p.1 (some p.2)) σ) E'
  | [], [], _, σ, E, h, .nil, hE => by cases h; exact ⟨rfl, hE⟩
  | [], x :: xs, _, σ, E, h, _, hE => by cases h
  | i :: ns, [], _, σ, E, h, _, hE => by cases h
  | i :: ns, x :: xs, _, σ, E, h, .cons r rs, hE => by
    obtain ⟨E1, h1, h2⟩ := Option.bind_eq_some_iff.mp (show (asgT (.nm i) x E).bind (fun E' => asgTs (ns.map .nm) xs E') = some E' from h)
    obtain ⟨z, rfl⟩ := of_if (show (if i < E.length then some (E.set i (some (.d x))) else none) = some E1 from h1)
    obtain ⟨k1, k2⟩ := set_two (ns := ns) h2 rs (hE.set (.d r))
    exact ⟨by rw [List.length_cons, List.length_cons, k1], k2⟩
/-- from a tuple that is taken apart at once -/
theorem imp_par {ns : List Nat} {ms : List Sm} {Fs : Fns} {t : TS} (ht : ∀ (D : Ends) (σ : L2.St) (H : Hp), tAs G W (evAll ms) σ H (fun vs H1 => vs.length = ns.length ∧ D.nx ((ns.zip vs).foldl (fun s p => s.set p.1 (some p.2)) σ) H1) → t D σ H) (D : Ends) (σ : L2.St) (H : Hp) :
    tS G W (fun E S => ((evAll ms E S).bind fun vs S1 => (R.of ((strictAll vs).bind fun xs => if xs.length ≤ sizeLine then some (.d (.tup xs)) else none) S1 : R Val)).bind fun v S1 => lift (v.dat.bind fun x => asgT (.seq (ns.map .nm)) x E) S1) D σ H → t D σ H := by
  intro ⟨M, ρ, E, S, hE, hS, g⟩
  refine ht D σ H ⟨M, ρ, E, S, hE, hS, ?_⟩
  have assoc : ∀ {α β γ : Type} (r : R α) (f : α → Store → R β) (k : β → Store → R γ), (r.bind f).bind k = r.bind fun x S => (f x S).bind k := fun r f k => by cases r <;> rfl
  have g := (congrArg (GotS G W M ρ S H D) (assoc (evAll ms E S) (fun vs S1 => (R.of ((strictAll vs).bind fun xs => if xs.length ≤ sizeLine then some (.d (.tup xs)) else none) S1 : R Val)) fun v S1 => lift (v.dat.bind fun x => asgT (.seq (ns.map .nm)) x E) S1)).mp g
  refine g.ex.imp fun xs S1 g vs H1 t1 s1 r => ?_
  obtain ⟨v, ev, g⟩ := GotS.of g
  obtain ⟨ds, e1, e2⟩ := Option.bind_eq_some_iff.mp ev
  obtain ⟨z, rfl⟩ := of_if e2
  obtain ⟨E', e3, g⟩ := GotS.of g
  obtain ⟨k1, k2⟩ := set_two (ns := ns) (show asgTs (ns.map .nm) ds E = some E' from e3) (ARs.strict r e1) (hE.step t1)
  exact ⟨k1, g ρ _ H1 t1.far k2 s1⟩
theorem tAs_mono {m : Env → Store → R (List Val)} {σ : L2.St} {H : Hp} {Q Q' : List V → Hp → Prop} (f : ∀ vs H, Q vs H → Q' vs H) (h : tAs G W m σ H Q) : tAs G W m σ H Q' := by
  obtain ⟨M, ρ, E, S, hE, hS, g⟩ := h
  exact ⟨M, ρ, E, S, hE, hS, g.imp fun xs S1 q vs H1 t s r => f _ _ (q vs H1 t s r)⟩
theorem par2 {ms : List Sm} {i j : Nat} (D : Ends) (σ : L2.St) (H : Hp) (h : tAs G W (evAll ms) σ H (fun vs H1 => vs.length = [i, j].length ∧ D.nx (([i, j].zip vs).foldl (fun s p => s.set p.1 (some p.2)) σ) H1)) : tPar i j (tAs G W (evAll ms)) D σ H :=
  tAs_mono (fun vs H ⟨l, q⟩ => by
    match vs, l, q with
    | [u, v], _, q => exact ⟨u, v, rfl, q⟩) h
theorem par3 {ms : List Sm} {i j k : Nat} (D : Ends) (σ : L2.St) (H : Hp) (h : tAs G W (evAll ms) σ H (fun vs H1 => vs.length = [i, j, k].length ∧ D.nx (([i, j, k].zip vs).foldl (fun s p => s.set p.1 (some p.2)) σ) H1)) : tPar3 i j k (tAs G W (evAll ms)) D σ H :=
  tAs_mono (fun vs H ⟨l, q⟩ => by
    match vs, l, q with
    | [u, v, w], _, q => exact ⟨u, v, w, rfl, q⟩) h

/-! ### loops -/
theorem s_whl {mt : Sm} {mb : SM} {n : Nat} (hp : PassesOwn (model X.prog X.w) X.A X.env X.xe) (ht : PT X e (tT G W mt.ts)) (hb : PSs X sts (tS G W mb)) : PS X (.While e sts [] pos) (tS G W (whileN mt.ts mb n)) := by
  refine PS_imp (ps_while hp ht hb) fun D σ H ⟨M, ρ, E, S, hE, hS, g⟩ => ?_
  refine ⟨fun m σ H => ∃ ρ E S, EnvR G H (Av M ρ S) ρ σ E ∧ Sim G M H ρ S ∧ GotS G W M ρ S H D (whileN mt.ts mb m E S), ⟨n, ρ, E, S, hE, hS, g⟩, ?_⟩
  rintro m σ H ⟨ρ, E, S, hE, hS, g⟩
  cases m with
  | zero => exact g.elim
  | succ m =>
    refine ⟨M, ρ, E, S, hE, hS, (GotS.ex (f := fun c S1 => if c then (mb E S1).bind fun p S2 => match p.1 with
      | .nx => whileN mt.ts mb m p.2 S2
      | .ct => whileN mt.ts mb m p.2 S2
      | .bk => .ok (.nx, p.2) S2
      | .rt v => .ok (.rt v, p.2) S2
    else .ok (.nx, E) S1) g).imp fun c S1 g H1 t1 s1 => ?_⟩
    have g := g.later t1.far hS s1
    have hE1 := hE.step t1
    cases c with
    | false => exact g ρ σ H1 Far.refl hE1 s1
    | true =>
      rw [if_pos rfl] at g
      refine ⟨fun σ' H' => ∃ ρ E S, EnvR G H' (Av M ρ S) ρ σ' E ∧ Sim G M H' ρ S ∧ GotS G W M ρ S H' D (whileN mt.ts mb m E S), fun σ' H' q => ⟨m, Nat.lt_succ_self m, q⟩, M, ρ, E, S1, hE1, s1, ?_⟩
      cases q : mb E S1 with
      | no => rw [q] at g; exact g.elim
      | ex c a S' => rw [q] at g; exact g
      | ok p S2 =>
        rw [q, R.bind_ok] at g
        obtain ⟨f, E2⟩ := p
        cases f with
        | nx => exact fun ρ' σ' H' t' hE' s' => ⟨ρ', E2, S2, hE', s', g.later t' s1 s'⟩
        | ct => exact fun ρ' σ' H' t' hE' s' => ⟨ρ', E2, S2, hE', s', g.later t' s1 s'⟩
        | bk => exact fun ρ' σ' H' t' hE' s' => g ρ' σ' H' t' hE' s'
        | rt v => exact fun ρ' σ' H' t' => g ρ' σ' H' t'
theorem s_for {mi : Sm} {mb : SM} {tg : Tg} {tgt : Expr} (hp : PassesOwn (model X.prog X.w) X.A X.env X.xe) (hc : X.calm = true) (hi : PI X tgt e (tIt G W mi.it)) (hg : PG X tgt (tTg G tg)) (hb : PSs X sts (tS G W mb)) (hs : ∀ x, foldedSetIterable e X.env x = pure x) :
    PS X (.For tgt e sts [] pos) (tS G W fun E S => (mi.it E S).bind fun xs S1 => loop (fun x E S => (R.of (asgT tg x E) S).bind fun E' S => mb E' S) xs E S1) := by
  refine PS_imp (ps_for hp hc hi hg hb hs) fun D σ H ⟨M, ρ, E, S, hE, hS, g⟩ => ⟨M, ρ, E, S, hE, hS, g.ex.imp fun xs S1 g J H1 t1 s1 it => ?_⟩
  have g := g.later t1.far hS s1
  refine ⟨fun i m σ H' => m = xs.length - i ∧ i ≤ xs.length ∧ ∃ ρ' E' S', Far ρ S1 H1 ρ' S' H' ∧ EnvR G H' (Av M ρ' S') ρ' σ E' ∧ Sim G M H' ρ' S' ∧ GotS G W M ρ' S' H' D (loop (fun x E S => (R.of (asgT tg x E) S).bind fun E' S => mb E' S) (xs.drop i) E' S'),
    ⟨xs.length, rfl, Nat.zero_le _, ρ, E, S1, Far.refl, hE.step t1, s1, g⟩, ?_⟩
  rintro i m σ H2 ⟨rfl, hi, ρ2, E2, S2, f2, hE2, s2, g2⟩
  have hit := it.2 i H2 (Av M ρ2 S2) (fun a o e n => f2.keep a o e fun z => n (.inl z)) fun a z => ⟨z.elim (fun z => (f2.live a z).imp .inl id) fun z => .inl (.inr z), s2.fit a z⟩
  by_cases hlt : i < xs.length
  · right
    obtain ⟨k1, k2⟩ := hit.2 xs[i] (List.getElem?_eq_getElem hlt)
    refine ⟨k1, fun σ' H' => i + 1 ≤ xs.length ∧ ∃ ρ' E' S', Far ρ S1 H1 ρ' S' H' ∧ EnvR G H' (Av M ρ' S') ρ' σ' E' ∧ Sim G M H' ρ' S' ∧ GotS G W M ρ' S' H' D (loop (fun x E S => (R.of (asgT tg x E) S).bind fun E' S => mb E' S) (xs.drop (i + 1)) E' S'),
      fun σ' H' ⟨q1, q2⟩ => ⟨xs.length - (i + 1), by omega, rfl, q1, q2⟩, fun v H3 y => ?_⟩
    obtain ⟨sm, dr⟩ := k2 v H3 y
    have s3 := s2.same sm
    have t3 : Step ρ2 S2 H2 S2 H3 := .same sm
    have f3 := f2.trans s2.all t3.far
    have hE3 := hE2.step t3
    have g3 := g2.later t3.far s2 s3
    rw [List.drop_eq_getElem_cons hlt] at g3
    have g3 : GotS G W M ρ2 S2 H3 D (((R.of (asgT tg xs[i] E2) S2).bind fun E' S => mb E' S).bind fun p S1 => match p.1 with
      | .nx => loop (fun x E S => (R.of (asgT tg x E) S).bind fun E' S => mb E' S) (xs.drop (i + 1)) p.2 S1
      | .ct => loop (fun x E S => (R.of (asgT tg x E) S).bind fun E' S => mb E' S) (xs.drop (i + 1)) p.2 S1
      | .bk => .ok (.nx, p.2) S1
      | .rt v => .ok (.rt v, p.2) S1) := g3
    cases ea : asgT tg xs[i] E2 with
    | none => rw [ea] at g3; exact g3.elim
    | some E4 =>
      rw [ea, R.of_some, R.bind_ok] at g3
      refine ⟨_, ρ2, xs[i], E2, E4, dr, hE3, ea, fun σ4 hE4 _ => ⟨M, ρ2, E4, S2, hE4, s3, ?_⟩⟩
      cases q : mb E4 S2 with
      | no => rw [q] at g3; exact g3.elim
      | ex c a S' => rw [q] at g3; exact g3
      | ok p S5 =>
        rw [q, R.bind_ok] at g3
        obtain ⟨f, E5⟩ := p
        cases f with
        | nx => exact fun ρ' σ' H' t' hE' s' => ⟨hlt, ρ', E5, S5, f3.trans s3.all t', hE', s', g3.later t' s3 s'⟩
        | ct => exact fun ρ' σ' H' t' hE' s' => ⟨hlt, ρ', E5, S5, f3.trans s3.all t', hE', s', g3.later t' s3 s'⟩
        | bk => exact fun ρ' σ' H' t' hE' s' => g3 ρ' σ' H' t' hE' s'
        | rt v => exact fun ρ' σ' H' t' => g3 ρ' σ' H' t'
  · left
    have ei : i = xs.length := by omega
    subst ei
    rw [List.drop_length] at g2
    exact ⟨hit.1 rfl, g2 ρ2 σ H2 Far.refl hE2 s2⟩
end
end Mi

set_option maxHeartbeats 4000000
/-! what is walked: ranges, pairs -/
namespace Mi
open PySem PySem.Spec PyProof.Rows L2
section
variable {G : Gb} {W : WX} {M : Addr → Prop} {ρ : List Addr} {S : Store} {H : Hp}
theorem upTo_len : ∀ (n : Nat) (lo : Int), (upTo lo n).length = n
  | 0, _ => rfl
  | n + 1, lo => by unfold upTo; rw [List.length_cons, upTo_len n]
theorem upTo_get : ∀ (n i : Nat) (lo : Int) (x : D), (upTo lo n)[i]? = some x → x = .int (lo + i)
  | 0, _, _, _, h => by unfold upTo at h; simp at h
  | n + 1, 0, lo, x, h => by unfold upTo at h; simp at h; rw [← h]; simp
  | n + 1, i + 1, lo, x, h => by
    unfold upTo at h
    have q := upTo_get n i (lo + 1) x (by simpa using h)
    rw [q]
    congr 1
    push_cast
    omega
theorem itOk_rng {lo : Int} {n : Nat} (hn : n ≤ sizeLine) : ItOk G M ρ S H (Itr lo n) (upTo lo n) := by
  refine ⟨by rw [upTo_len]; exact hn, fun i H2 N k hN => ⟨fun hi => by rw [upTo_len] at hi; exact Nat.le_of_eq hi, fun x e => ?_⟩⟩
  have hi : i < n := by
    have := (List.getElem?_eq_some_iff.mp e).1
    rwa [upTo_len] at this
  refine ⟨hi, fun v H3 ⟨eH, ev⟩ => ?_⟩
  subst eH ev
  rw [upTo_get _ _ _ _ e]
  exact ⟨Same.refl _, .int _⟩
theorem evAll_len : ∀ (ms : List Sm) {E : Env} {S S' : Store} {vs : List Val}, evAll ms E S = .ok vs S' → vs.length = ms.length
  | [], _, _, _, _, h => by unfold evAll at h; cases h; rfl
  | m :: ms, E, S, S', vs, h => by
    unfold evAll at h
    obtain ⟨v, S1, _, h⟩ := bind_ok h
    obtain ⟨us, S2, h2, h⟩ := bind_ok h
    cases h
    rw [List.length_cons, List.length_cons, evAll_len ms h2]
theorem strictAll_len : ∀ {vs : List Val} {xs : List D}, strictAll vs = some xs → xs.length = vs.length
  | [], _, h => by unfold strictAll at h; cases h; rfl
  | v :: vs, xs, h => by
    unfold strictAll at h
    obtain ⟨x, _, h⟩ := Option.bind_eq_some_iff.mp h
    obtain ⟨ys, h2, rfl⟩ := Option.map_eq_some_iff.mp h
    rw [List.length_cons, List.length_cons, strictAll_len h2]
theorem imp_rng1 {ms : List Sm} (hl : ms.length = 1) (σ : L2.St) (H : Hp) (RR : It → Hp → Prop) : tIt G W (fun E S => (evAll ms E S).bind fun vs S1 => R.of ((strictAll vs).bind rngD) S1) σ H RR → iRng1 (tAs G W (evAll ms)) σ H RR := by
  intro ⟨M, ρ, E, S, hE, hS, g⟩
  have g := Got.bind g
  cases q : evAll ms E S with
  | no => rw [q] at g; exact g.elim
  | ex c a S' => exact ⟨M, ρ, E, S, hE, hS, by rw [q] at g ⊢; exact g⟩
  | ok vs S1 =>
    rw [q] at g
    obtain ⟨xs, ex, g⟩ := of_some (show Got G W M σ ρ S H (R.of ((strictAll vs).bind rngD) S1) _ from g)
    obtain ⟨ds, e1, e2⟩ := Option.bind_eq_some_iff.mp ex
    have hd : ds.length = 1 := by rw [strictAll_len e1, evAll_len ms q, hl]
    match ds, hd, e1, e2 with
    | [d], _, e1, e2 =>
      cases d with
      | int j =>
        obtain ⟨z, rfl⟩ := of_if e2
        simp only [Bool.and_eq_true, decide_eq_true_eq] at z
        refine ⟨M, ρ, E, S, hE, hS, ?_⟩
        rw [q]
        intro us H' t s r
        have rs := ARs.strict r e1
        cases rs with
        | cons h rn =>
          cases rn
          cases h
          exact ⟨j, rfl, z.1.1, z.1.2, g _ H' t s (itOk_rng (by omega))⟩
      | _ => cases e2
theorem imp_rng2 {ms : List Sm} (hl : ms.length = 2) (σ : L2.St) (H : Hp) (RR : It → Hp → Prop) : tIt G W (fun E S => (evAll ms E S).bind fun vs S1 => R.of ((strictAll vs).bind rngD) S1) σ H RR → iRng2 (tAs G W (evAll ms)) σ H RR := by
  intro ⟨M, ρ, E, S, hE, hS, g⟩
  have g := Got.bind g
  cases q : evAll ms E S with
  | no => rw [q] at g; exact g.elim
  | ex c a S' => exact ⟨M, ρ, E, S, hE, hS, by rw [q] at g ⊢; exact g⟩
  | ok vs S1 =>
    rw [q] at g
    obtain ⟨xs, ex, g⟩ := of_some (show Got G W M σ ρ S H (R.of ((strictAll vs).bind rngD) S1) _ from g)
    obtain ⟨ds, e1, e2⟩ := Option.bind_eq_some_iff.mp ex
    have hd : ds.length = 2 := by rw [strictAll_len e1, evAll_len ms q, hl]
    match ds, hd, e1, e2 with
    | [d, d2], _, e1, e2 =>
      cases d with
      | int i =>
        cases d2 with
        | int j =>
          obtain ⟨z, rfl⟩ := of_if e2
          simp only [Bool.and_eq_true, decide_eq_true_eq] at z
          refine ⟨M, ρ, E, S, hE, hS, ?_⟩
          rw [q]
          intro us H' t s r
          have rs := ARs.strict r e1
          cases rs with
          | cons h rn =>
            cases h
            cases rn with
            | cons h2 rn =>
              cases rn
              cases h2
              exact ⟨i, j, rfl, ⟨z.1.1.1.1, z.1.1.1.2, z.1.1.2, z.1.2⟩, g _ H' t s (itOk_rng (by omega))⟩
        | _ => cases e2
      | _ => cases e2

/-! ### pairs -/
theorem zipD_len : ∀ (xs ys : List D), (zipD xs ys).length = min xs.length ys.length
  | [], _ => by unfold zipD; simp
  | _ :: _, [] => by unfold zipD; simp
  | x :: xs, y :: ys => by unfold zipD; rw [List.length_cons, zipD_len xs ys]; simp only [List.length_cons]; omega
theorem zipD_get : ∀ (xs ys : List D) (i : Nat) (z : D), (zipD xs ys)[i]? = some z → ∃ x y, xs[i]? = some x ∧ ys[i]? = some y ∧ z = .tup [x, y]
  | [], _, _, _, h => by unfold zipD at h; simp at h
  | _ :: _, [], _, _, h => by unfold zipD at h; simp at h
  | x :: xs, y :: ys, 0, z, h => by unfold zipD at h; simp at h; exact ⟨x, y, rfl, rfl, h.symm⟩
  | x :: xs, y :: ys, i + 1, z, h => by
    unfold zipD at h
    obtain ⟨a, b, h1, h2, h3⟩ := zipD_get xs ys i z (by simpa using h)
    exact ⟨a, b, by simpa using h1, by simpa using h2, h3⟩
theorem enumD_len : ∀ (xs : List D) (k : Int), (enumD k xs).length = xs.length
  | [], _ => rfl
  | x :: xs, k => by unfold enumD; rw [List.length_cons, enumD_len xs]; rfl
theorem enumD_get : ∀ (xs : List D) (k : Int) (i : Nat) (z : D), (enumD k xs)[i]? = some z → ∃ x, xs[i]? = some x ∧ z = .tup [.int (k + i), x]
  | [], _, _, _, h => by unfold enumD at h; simp at h
  | x :: xs, k, 0, z, h => by unfold enumD at h; simp at h; exact ⟨x, rfl, by simp [← h]⟩
  | x :: xs, k, i + 1, z, h => by
    unfold enumD at h
    obtain ⟨a, h1, h2⟩ := enumD_get xs (k + 1) i z (by simpa using h)
    refine ⟨a, by simpa using h1, ?_⟩
    rw [h2]
    congr 3
    push_cast
    omega
/-- a list, or a tuple, that stands -/
def SqB (p : Bool) (K : PySem.W.Frag) (H : Hp) (a : Addr) (xs : List V) : Prop := if p then SqL K H a xs else SqT K H a xs
theorem DR.sqB {N : Addr → Prop} {v : V} {d : D} {xs : List D} (h : DR G H N v d) (e : itemsOf d = some xs) : ∃ p a vs, v = .ref a ∧ SqB p G.K H a vs ∧ DRs G H N vs xs ∧ ∀ (H2 : Hp), (∀ a o, H a = some o → ¬ N a → H2 a = some o) → SqB p G.K H2 a vs := by
  cases d with
  | lst ys =>
    cases e
    obtain ⟨a, vs, rfl, h1, n, h2⟩ := h.listR
    exact ⟨true, a, vs, rfl, .inl h1, h2, fun H2 k => .inl (h1.imp (fun e => k _ _ e n) fun ⟨o, e⟩ => ⟨o, k _ _ e n⟩)⟩
  | klst ys =>
    cases e
    obtain ⟨a, vs, rfl, h1, h2⟩ := h.klstR
    refine ⟨true, a, vs, rfl, h1.sq, h2, fun H2 k => ?_⟩
    rcases h1 with ⟨h, n⟩ | h
    · exact .inl (h.imp (fun e => k _ _ e n) fun ⟨o, e⟩ => ⟨o, k _ _ e n⟩)
    · exact .inr h
  | tup ys =>
    cases e
    obtain ⟨a, vs, rfl, h1, h2, h3⟩ := h.tupR
    refine ⟨false, a, vs, rfl, h1, h2, fun H2 k => ?_⟩
    rcases h3 with ⟨h, n⟩ | h
    · exact .inl (h.imp (fun e => k _ _ e n) fun ⟨o, e⟩ => ⟨o, k _ _ e n⟩)
    · exact .inr h
  | _ => cases e
/-- pairs from two that stand -/
def ItzB (K : PySem.W.Frag) (p q : Bool) (a b : Addr) : It :=
  ⟨fun i H => ∃ (xs ys : List V) (x y : V), SqB p K H a xs ∧ SqB q K H b ys ∧ xs[i]? = some x ∧ ys[i]? = some y,
    fun i H v H' => ∃ T x y, v = .ref T ∧ H T = none ∧ H' = upd H T (.tup [x, y]) ∧ (∀ xs, SqB p K H a xs → xs[i]? = some x) ∧ ∀ ys, SqB q K H b ys → ys[i]? = some y,
    fun i H => ∃ xs ys : List V, SqB p K H a xs ∧ SqB q K H b ys ∧ i = min xs.length ys.length⟩
theorem itOk_zip {p q : Bool} {a b : Addr} {us ws : List V} {xs ys : List D} (z : us.length ≤ sizeLine) (h1 : ∀ (H2 : Hp), (∀ a o, H a = some o → ¬ Av M ρ S a → H2 a = some o) → SqB p G.K H2 a us) (h2 : ∀ (H2 : Hp), (∀ a o, H a = some o → ¬ Av M ρ S a → H2 a = some o) → SqB q G.K H2 b ws)
    (r1 : DRs G H (Av M ρ S) us xs) (r2 : DRs G H (Av M ρ S) ws ys) : ItOk G M ρ S H (ItzB G.K p q a b) (zipD xs ys) := by
  refine ⟨by rw [zipD_len, ← r1.len]; omega, fun i H2 N k hN => ?_⟩
  have s1 := h1 H2 k
  have s2 := h2 H2 k
  refine ⟨fun hi => ⟨us, ws, s1, s2, ?_⟩, fun x e => ?_⟩
  · rw [zipD_len] at hi
    rw [r1.len, r2.len]
    exact hi.symm
  · obtain ⟨dx, dy, e1, e2, rfl⟩ := zipD_get _ _ _ _ e
    obtain ⟨v, v1, v2⟩ := r1.get e1
    obtain ⟨u, u1, u2⟩ := r2.get e2
    refine ⟨⟨us, ws, v, u, s1, s2, v1, u1⟩, fun w H3 ⟨T, x, y, ew, eT, eH, q1, q2⟩ => ?_⟩
    subst ew eH
    have ex := q1 us s1
    rw [v1] at ex
    cases ex
    have ey := q2 ws s2
    rw [u1] at ey
    cases ey
    have sm : Same H2 (upd H2 T (.tup [v, u])) := same_upd eT
    refine ⟨sm, .tup (.inl upd_same) (fun n => (hN T n).2 eT) (.cons ?_ (.cons ?_ .nil))⟩
    · exact (DR.mono k (fun c z => (hN c z).1) _ v2).same sm
    · exact (DR.mono k (fun c z => (hN c z).1) _ u2).same sm
def iZipB (K : PySem.W.Frag) (ta : TA) : TI := fun σ H R => ta σ H fun vs H1 => Sz K H1 → ∃ p q a b xs ys, vs = [.ref a, .ref b] ∧ SqB p K H1 a xs ∧ SqB q K H1 b ys ∧ R (ItzB K p q a b) H1
theorem imp_zip {ms : List Sm} (σ : L2.St) (H : Hp) (RR : It → Hp → Prop) : tIt G W (fun E S => (evAll ms E S).bind fun vs S1 => R.of ((strictAll vs).bind zipA) S1) σ H RR → iZipB G.K (tAs G W (evAll ms)) σ H RR := by
  intro ⟨M, ρ, E, S, hE, hS, g⟩
  refine ⟨M, ρ, E, S, hE, hS, (Got.bind g).imp fun xs S1 g vs H1 t1 s1 r sz => ?_⟩
  obtain ⟨y, ey, g⟩ := of_some g
  obtain ⟨ds, e1, e2⟩ := Option.bind_eq_some_iff.mp ey
  have rs := ARs.strict r e1
  unfold zipA at e2
  split at e2
  · obtain ⟨xs', e3, e4⟩ := Option.bind_eq_some_iff.mp e2
    obtain ⟨ys', e5, rfl⟩ := Option.map_eq_some_iff.mp e4
    cases rs with
    | cons h rn =>
      cases rn with
      | cons h2 rn =>
        cases rn
        obtain ⟨p, a, us, rfl, k1, k2, k3⟩ := h.sqB e3
        obtain ⟨q, b, ws, rfl, j1, j2, j3⟩ := h2.sqB e5
        have z : us.length ≤ sizeLine := by
          cases p with
          | true => exact sz.1 a us k1
          | false => exact sz.2 a us k1
        exact ⟨p, q, a, b, us, ws, rfl, k1, j1, g _ H1 t1 s1 (itOk_zip z k3 j3 k2 j2)⟩
  · cases e2
theorem itOk_enum {a : Addr} {us : List V} {xs : List D} (z : us.length ≤ sizeLine) (h1 : ∀ (H2 : Hp), (∀ a o, H a = some o → ¬ Av M ρ S a → H2 a = some o) → SqL G.K H2 a us) (r1 : DRs G H (Av M ρ S) us xs) : ItOk G M ρ S H (Ite G.K a) (enumD 0 xs) := by
  refine ⟨by rw [enumD_len, ← r1.len]; exact z, fun i H2 N k hN => ?_⟩
  have s1 := h1 H2 k
  refine ⟨fun hi => ⟨us, s1, by rw [enumD_len] at hi; rw [r1.len]; exact Nat.le_of_eq hi⟩, fun x e => ?_⟩
  obtain ⟨dx, e1, rfl⟩ := enumD_get _ _ _ _ e
  obtain ⟨v, v1, v2⟩ := r1.get e1
  refine ⟨⟨us, v, s1, v1⟩, fun w H3 ⟨T, x, ew, eT, eH, q1⟩ => ?_⟩
  subst ew eH
  have ex := q1 us s1
  rw [v1] at ex
  cases ex
  have sm : Same H2 (upd H2 T (.tup [.int (i : Nat), v])) := same_upd eT
  refine ⟨sm, .tup (.inl upd_same) (fun n => (hN T n).2 eT) (.cons ?_ (.cons ?_ .nil))⟩
  · rw [Int.zero_add]; exact .int _
  · exact (DR.mono k (fun c z => (hN c z).1) _ v2).same sm
theorem imp_enum {ms : List Sm} (σ : L2.St) (H : Hp) (RR : It → Hp → Prop) : tIt G W (fun E S => (evAll ms E S).bind fun vs S1 => R.of ((strictAll vs).bind enumA) S1) σ H RR → tAs G W (evAll ms) σ H (fun vs H1 => Sz G.K H1 → ∃ a xs, vs = [.ref a] ∧ SqL G.K H1 a xs ∧ RR (Ite G.K a) H1) := by
  intro ⟨M, ρ, E, S, hE, hS, g⟩
  refine ⟨M, ρ, E, S, hE, hS, (Got.bind g).imp fun xs S1 g vs H1 t1 s1 r sz => ?_⟩
  obtain ⟨y, ey, g⟩ := of_some g
  obtain ⟨ds, e1, e2⟩ := Option.bind_eq_some_iff.mp ey
  have rs := ARs.strict r e1
  unfold enumA at e2
  split at e2
  · cases e2
    cases rs with
    | cons h rn =>
      cases rn
      obtain ⟨a, us, rfl, k1, n, k2⟩ := h.listR
      exact ⟨a, us, rfl, .inl k1, g _ H1 t1 s1 (itOk_enum (sz.1 a us (.inl k1)) (fun H2 k => .inl (k1.imp (fun e => k _ _ e n) fun ⟨o, e⟩ => ⟨o, k _ _ e n⟩)) k2)⟩
  · cases e2
end
section
variable {X : Cx} {es : List Expr} {ta : TA}
theorem PA_sz {t : TA} (h : PA X es t) : PA X es (fun σ H Q => t σ H fun v H' => Sz X.K H' → Q v H') :=
  ⟨fun pos p s σ H Q I q => thn (h.run pos p s σ H _ I q) fun u s' ⟨v, H', I', r, k⟩ => ⟨v, H', I', r, k (Inv_sz I')⟩⟩
end
end Mi

set_option maxHeartbeats 4000000
/-! pairs from a list or a tuple with a list or a tuple -/
namespace Mi
open PySem PySem.Spec PyProof.Rows L2
/-- an iterator over what stands at a -/
def ItA (p : Bool) (h : Heap) (it a : Addr) (i : Nat) : Prop := ∃ o, h.get? it = some o ∧ o.cls = .type (if p then "list_iterator" else "tuple_iterator") ∧ o.data = .fields #[.ref a, .int i 0]
theorem ItA.at {p : Bool} {h h' : Heap} {it a : Addr} {i : Nat} (x : ItA p h it a i) (k : ∀ o, h.get? it = some o → h'.get? it = some o) : ItA p h' it a i := let ⟨o, e, r⟩ := x; ⟨o, k o e, r⟩
def SrcAt (p : Bool) (h : Heap) (a : Addr) (its : Array Value) : Prop := if p then h.IsList a its else h.IsTuple a its
theorem drawsB {prog : Program} {w : World} {A : Around} (p : Bool) (hh : A.handled = none) (it a : Addr) (hne : a ≠ it) (its : Array Value) :
    Draws prog w A it [it, a] its.size (fun i v => its[i]? = some v) (fun i h => ItA p h it a i ∧ SrcAt p h a its) := by
  cases p with
  | true => exact Draws.list hh it a hne its
  | false => exact Draws.tuple hh it a hne its
theorem srcB {X : Cx} {pins : List (Addr × Obj)} {σ : L2.St} {H : Hp} {s : Shared} {p : Bool} {a : Addr} {xs : List V} (I : Inv X pins σ H s) (h : SqB p X.K H a xs) : ∃ its : List Value, Vals xs its ∧ SrcAt p s.heap a its.toArray := by
  cases p with
  | true => obtain ⟨its, r, pl, _⟩ := I.list h; exact ⟨its, r, pl.isList⟩
  | false => obtain ⟨its, r, t, _⟩ := I.tuple h; exact ⟨its, r, t⟩
theorem ItA.apart {p : Bool} {h : Heap} {a it : Addr} {i : Nat} {its : Array Value} (x : ItA p h it a i) (y : SrcAt p h a its) : a ≠ it := fun e => by
  subst e
  obtain ⟨o, e1, c1, _⟩ := x
  cases p with
  | true => obtain ⟨o', e2, c2, _⟩ := (show h.IsList a its from y); rw [e1] at e2; cases e2; rw [c1] at c2; exact absurd c2 (by decide)
  | false => obtain ⟨o', e2, c2, _⟩ := (show h.IsTuple a its from y); rw [e1] at e2; cases e2; rw [c1] at c2; exact absurd c2 (by decide)
theorem SrcAt.lt {p : Bool} {h : Heap} {a : Addr} {its : Array Value} (x : SrcAt p h a its) : a < h.objs.size := by
  cases p with
  | true => obtain ⟨o, e, _⟩ := (show h.IsList a its from x); exact Heap.lt_size e
  | false => obtain ⟨o, e, _⟩ := (show h.IsTuple a its from x); exact Heap.lt_size e
theorem sqB_inj {X : Cx} {pins : List (Addr × Obj)} {σ : L2.St} {H : Hp} {s : Shared} {p : Bool} {a : Addr} {xs ys : List V} (I : Inv X pins σ H s) (h : SqB p X.K H a xs) (h' : SqB p X.K H a ys) : xs = ys := by
  cases p with
  | true => exact I.list_inj h h'
  | false => exact I.tuple_inj h h'
theorem turn_zipB {P : Program} {w : World} {K : PySem.W.Frag} {elts : List Expr} {kk : Nat} {tpos : Pos} {p q : Bool} {a b z TI TO i1 i2 : Addr} (D : ZipSep2 z TI TO i1 i2 [i1, a] [i2, b]) :
    Turn P w K (.Tuple elts kk tpos) (ItzB K p q a b) [z, TI, TO, i1, i2] z (fun i h => IsZip h z TI TO .none ∧ IsTupOf2 h TI (.ref i1) (.ref i2) ∧ (∃ x y, IsTupOf2 h TO x y) ∧ ItA p h i1 a i ∧ ItA q h i2 b i) := by
  have i1z : i1 ≠ z := D.zi1.symm
  have i2z : i2 ≠ z := D.zi2.symm
  refine ⟨by simp, fun i h st c hc => ?_, fun i h h' st k => ?_, ?_, ?_, fun A i s Q E st h => wpAny_pyIter_zip st.1 h⟩
  · obtain ⟨hz, hTI, ⟨x, y, hTO⟩, ⟨o1, e1, _, d1⟩, o2, e2, _, d2⟩ := st
    simp only [List.mem_cons, List.not_mem_nil, or_false] at hc
    rcases hc with e | e | e | e | e <;> subst e
    · exact ⟨_, hz, fun v q => nomatch q⟩
    · exact ⟨_, hTI, fun v q => nomatch q⟩
    · exact ⟨_, hTO, fun v q => nomatch q⟩
    · exact ⟨o1, e1, fun v q => by rw [d1] at q; cases q⟩
    · exact ⟨o2, e2, fun v q => by rw [d2] at q; cases q⟩
  · obtain ⟨hz, hTI, ⟨x, y, hTO⟩, h1, h2⟩ := st
    exact ⟨k z (by simp) _ hz, k TI (by simp) _ hTI, ⟨x, y, k TO (by simp) _ hTO⟩, h1.at fun o e => k i1 (by simp) o e, h2.at fun o e => k i2 (by simp) o e⟩
  · intro X hP hw hK hc i pins s σ H E I hf st hg
    subst hP hw hK
    obtain ⟨hz, hTI, ⟨x0, y0, hTO⟩, h1, h2⟩ := st
    obtain ⟨xs, ys, x, y, kx, ky, ex, ey⟩ := hg
    obtain ⟨its, rv, sx⟩ := srcB I kx
    obtain ⟨its2, rv2, sy⟩ := srcB I ky
    obtain ⟨u, hu, ru⟩ := rv.get ex
    obtain ⟨u2, hu2, ru2⟩ := rv2.get ey
    have ne1 := h1.apart sx
    have ne2 := h2.apart sy
    have hzl : z < s.heap.objs.size := Heap.lt_size hz
    refine wpAny_pyNext_zipD2_item D (drawsB (A := X.A.in1) p (I.ok.hd hc) i1 a ne1 its.toArray) (drawsB (A := X.A.in1) q (I.ok.hd hc) i2 b ne2 its2.toArray) hz hTI hTO ⟨h1, sx⟩ ⟨h2, sy⟩ (by simpa using (List.getElem?_eq_some_iff.mp hu).1) (by simpa using (List.getElem?_eq_some_iff.mp hu2).1)
      fun v1 v2 h' tk w1 w2 z' TO' st1 st2 hT hsz hk => ?_
    have w1 : its[i]? = some v1 := by simpa using w1
    have w2 : its2[i]? = some v2 := by simpa using w2
    rw [hu] at w1
    cases w1
    rw [hu2] at w2
    cases w2
    refine ⟨_, rfl, wpAny_letOwnedTupleGo_zip (s := { s with heap := h', toks := tk }) z' fun h'' z'' sb => ?_⟩
    have new : ObjOk X.prog X.w (upd H s.heap.objs.size (.tup [x, y])) h'' s.heap.objs.size (.tup [x, y]) :=
      ⟨by show 2 ≤ sizeLine; decide, [u, u2], .cons ru (.cons ru2 .nil), ⟨_, (sb.2 _ (Nat.ne_of_gt hzl)).trans hT, rfl, _, rfl⟩⟩
    have I1 : Inv X pins σ (upd H s.heap.objs.size (.tup [x, y])) { s with heap := h'', toks := tk } := by
      refine I.turnedNew (ch := [z, TI, TO, i1, i2]) (fun c o hb e => ?_) hf (Nat.le_refl _) new
      simp only [List.mem_cons, List.not_mem_nil, or_false, not_or] at hb
      exact (sb.2 c hb.1).trans (hk c o hb.1 hb.2.2.1 hb.2.2.2.1 hb.2.2.2.2 e)
    refine ⟨.ref s.heap.objs.size, _, I1, rfl, ⟨_, x, y, rfl, I.hok.fresh (Nat.le_refl _), rfl, fun l hl => by rw [sqB_inj I hl kx]; exact ex, fun l hl => by rw [sqB_inj I hl ky]; exact ey⟩,
      ⟨z'', (sb.2 _ D.TIz).trans (hk _ _ D.TIz D.TITO D.TIi1 D.TIi2 hTI), ⟨u, u2, (sb.2 _ D.TOz).trans TO'⟩, st1.1.at fun o e => (sb.2 _ i1z).trans e, st2.1.at fun o e => (sb.2 _ i2z).trans e⟩, fun c hcm => ?_⟩
    have hlt : c < s.heap.objs.size := by
      have hcm' := hcm
      simp only [List.mem_cons, List.not_mem_nil, or_false] at hcm'
      rcases hcm' with e | e | e | e | e <;> subst e
      · exact hzl
      · exact Heap.lt_size hTI
      · exact Heap.lt_size hTO
      · obtain ⟨_, e1, _⟩ := h1; exact Heap.lt_size e1
      · obtain ⟨_, e2, _⟩ := h2; exact Heap.lt_size e2
    rw [upd_ne (Nat.ne_of_lt hlt)]
    exact (hf c hcm).1
  · intro X hP hw hK hc i pins s σ H E I hf st hg
    subst hP hw hK
    obtain ⟨hz, hTI, ⟨x0, y0, hTO⟩, h1, h2⟩ := st
    obtain ⟨xs, ys, kx, ky, hend⟩ := hg
    obtain ⟨its, rv, sx⟩ := srcB I kx
    obtain ⟨its2, rv2, sy⟩ := srcB I ky
    have l1 := rv.length
    have l2 := rv2.length
    exact wpAny_pyNext_zipD2_end D (drawsB (A := X.A.in1) p (I.ok.hd hc) i1 a (h1.apart sx) its.toArray) (drawsB (A := X.A.in1) q (I.ok.hd hc) i2 b (h2.apart sy) its2.toArray) hz hTI hTO ⟨h1, sx⟩ ⟨h2, sy⟩ (by simp; omega) (by simp; omega) (by simp; omega)
      fun h' tk hk => ⟨rfl, I.turnedL (t' := tk) (ch := [z, TI, TO, i1, i2]) (fun c o hb e => by
        simp only [List.mem_cons, List.not_mem_nil, or_false, not_or] at hb
        exact hk c o hb.1 hb.2.2.1 hb.2.2.2.1 hb.2.2.2.2 e) hf⟩
theorem begB (p : Bool) (a : Addr) (its : Array Value) : Begins (.ref a) { cls := .type (if p then "list_iterator" else "tuple_iterator"), data := .fields #[.ref a, .int 0 0] } fun h => SrcAt p h a its := by
  cases p with
  | true => exact begins_list a its
  | false => exact begins_tuple a its
theorem pi_zipB {X : Cx} {e e2 : Expr} {ta : TA} {p pos tpos : Pos} {elts : List Expr} {kk : Nat} (hg : Gl X "zip") (hm : X.mg "zip" = none) (ha : PA X [e, e2] ta)
    (hs : starEach [e, e2] X.env = (false, eval e X.env) :: starEach [e2] X.env) (hpl : (backTo pos (starEach [e2] X.env)).any (·.1) = false) :
    PI X (.Tuple elts kk tpos) (.Call (.Name "zip" p) [e, e2] [] pos) (iZipB X.K ta) := by
  refine ⟨fun pins s σ H R I h => ?_⟩
  refine Call_ (ld_blt I hg hm PyProof.Rows.boot_zip (PyProof.Rows.callWith_type1 (thn (ha.run pos pins s σ H _ I h) fun us s1 ⟨vs, H1, I1, r1, q1⟩ => ?_) hs hpl))
  obtain ⟨pa, pb, a, b, xs, ys, ex, hqx, hqy, q⟩ := q1 (Inv_sz I1)
  subst ex
  cases r1 with
  | cons r rr =>
    cases rr with
    | cons r' rr =>
      cases rr
      cases r
      cases r'
      obtain ⟨its, rv, sx⟩ := srcB I1 hqx
      obtain ⟨its2, rv2, sy⟩ := srcB I1 hqy
      refine zip_begins2 (begB pa a its.toArray) (begB pb b its2.toArray) sx sy fun h' hz hTI hTO g1 g2 hsz hk => wpAny_pyIter_zip hz ?_
      have I2 : Inv X pins σ H1 { s1 with heap := h' } := I1.kept (t' := s1.toks) hk
      have D : ZipSep2 (s1.heap.objs.size + 4) (s1.heap.objs.size + 2) (s1.heap.objs.size + 3) s1.heap.objs.size (s1.heap.objs.size + 1) [s1.heap.objs.size, a] [s1.heap.objs.size + 1, b] :=
        zip_sep2 (fun c hc => by rw [List.mem_singleton.mp hc]; exact sx.lt) fun c hc => by rw [List.mem_singleton.mp hc]; exact sy.lt
      refine ⟨s1.heap.objs.size + 4, [s1.heap.objs.size + 4, s1.heap.objs.size + 2, s1.heap.objs.size + 3, s1.heap.objs.size, s1.heap.objs.size + 1], _, _, H1, rfl, I2, turn_zipB D, ⟨hz, hTI, ⟨_, _, hTO⟩, ⟨_, g1, rfl, rfl⟩, ⟨_, g2, rfl, rfl⟩⟩, fun c hcm => ?_, q⟩
      have hle : s1.heap.objs.size ≤ c := by
        simp only [List.mem_cons, List.not_mem_nil, or_false] at hcm
        rcases hcm with e | e | e | e | e <;> subst e <;> first | exact Nat.le_refl _ | exact Nat.le_add_right _ _
      exact I1.fpOk hle (I1.hok.fresh hle)
end Mi

set_option maxHeartbeats 4000000
/-! an own exception class over ValueError (through another one) whose __init__ says super().__init__("..") and keeps its argument -/
namespace PySem
namespace SupX
open PySem.W PySem.Calls PyProof.Rows PySem.HandSPX
def iA (f : Str) (p1 p2 : Pos) : Arguments := { posonlyargs := [], args := [{ arg := "self", annotation := none, pos := p1 }, { arg := f, annotation := none, pos := p2 }], vararg := none, kwonlyargs := [], kw_defaults := [], kwarg := none, defaults := [] }
def iB (f m : Str) (kk : Nat) (q1 q2 q3 q4 q5 q6 q7 q8 q9 q10 : Pos) : List Stmt :=
  [.Expr (.Call (.Attribute (.Call (.Name "super" q1) [] [] q2) "__init__" q3) [.Constant (.str m) kk q4] [] q5) q6, .Assign [.Attribute (.Name "self" q7) f q8] (.Name f q9) q10]
def iS (f : Str) : Scope := { kind := .function, names := [(PySem.Str.ofString "self", .local), (f, .local), (PySem.Str.ofString "__class__", .free), (PySem.Str.ofString "super", .globalImplicit)], isGenerator := false, isCoroutine := false, more := [] }
/-- what the written part says of the class at C, and of its __init__, at fI -/
structure SupTxt (K : Frag) (prog : Program) (f : Str) (C fI : Addr) : Prop where
  cls : ∃ nm q N bs bm sn sub ab col dd k0 k1 k2 k3 k5, K.lookup C = some (excClassObj nm q C N bs bm true sn sub ab col dd k0 k1 k2 k3 k5 "ValueError.__new__") ∧ refsVE bm = true
  sa : findIn K (.ref C) "__setattr__" = some (some (.builtin "object.__setattr__"))
  noN : findIn K (.ref C) f = some none
  iC : findIn K (.ref C) "__init__" = some (some (.ref fI))
  tC : typeIn K (.ref fI) = some (.type "function")
  kC : keepIn K (.ref C) = true
  exC : subIn K (.ref C) (.type "BaseException") = some true
  tyC : typeIn K (.ref C) = some (.type "type")
  vC : subIn K (.ref C) (.type "ValueError") = some true
  mC : mroIn K C (.ref C) = some true
  al : ks_superIn K C C "__init__" = some (some (.builtin "ValueError.__init__"))
  sup : nsIn K mainGlobals "super" = some none
  op : nsIn K cStatics "thirdparty.any" = some none
  top : (prog.main.scope.names.lookup ("super" : Str)).isSome = false
  fn : ∃ (oc : Value) (od : Option Addr) (qual : Str) (doc pm : Value) (an : Option Addr) (cda : Addr) (ct : Value) (osl : Array (Option Value)) (m : Str) (kk : Nat) (p1 p2 q1 q2 q3 q4 q5 q6 q7 q8 q9 q10 : Pos) (cc : Addr) (ccl cl : Value) (cdd cld : Option Addr) (vs : Array Value) (ccs csl : Array (Option Value)) (file : Str) (tf : Tok),
    K.lookup fI = some ⟨oc, od, .func (ksFn "__init__" qual (iA f p1 p2) (iB f m kk q1 q2 q3 q4 q5 q6 q7 q8 q9 q10) (iS f) .none .none doc pm an (.ref cda) ct cc), osl⟩ ∧ codeIn K (.ref cda) qual = true ∧ (q3.endLine == q5.line) = true ∧
    K.lookup cda = some ⟨ccl, cdd, .fields vs, ccs⟩ ∧ vs[2]? = some (.str file tf) ∧ ((prog.main.file : Str) == file) = true ∧ K.lookup cc = some ⟨cl, cld, .cell (some (.ref C)), csl⟩
theorem supTxt_mk {K : Frag} {prog : Program} {f : Str} {C fI : Addr} {nm q : Str} {N : Addr} {bs bm : List Value} {sn : List Str} {sub : List Value} {ab : Bool} {col : Option Bool} {dd : Option Addr} {k0 k1 k2 k3 k5 : Option Value}
    (hC : K.lookup C = some (excClassObj nm q C N bs bm true sn sub ab col dd k0 k1 k2 k3 k5 "ValueError.__new__")) (hbm : refsVE bm = true)
    (sa : findIn K (.ref C) "__setattr__" = some (some (.builtin "object.__setattr__"))) (noN : findIn K (.ref C) f = some none) (iC : findIn K (.ref C) "__init__" = some (some (.ref fI))) (tC : typeIn K (.ref fI) = some (.type "function"))
    (kC : keepIn K (.ref C) = true) (exC : subIn K (.ref C) (.type "BaseException") = some true) (tyC : typeIn K (.ref C) = some (.type "type")) (vC : subIn K (.ref C) (.type "ValueError") = some true) (mC : mroIn K C (.ref C) = some true)
    (al : ks_superIn K C C "__init__" = some (some (.builtin "ValueError.__init__"))) (sup : nsIn K mainGlobals "super" = some none) (op : nsIn K cStatics "thirdparty.any" = some none) (top : (prog.main.scope.names.lookup ("super" : Str)).isSome = false)
    {oc : Value} {od : Option Addr} {qual : Str} {doc pm : Value} {an : Option Addr} {cda : Addr} {ct : Value} {osl : Array (Option Value)} {m : Str} {kk : Nat} {p1 p2 q1 q2 q3 q4 q5 q6 q7 q8 q9 q10 : Pos} {cc : Addr} {ccl cl : Value} {cdd cld : Option Addr} {vs : Array Value} {ccs csl : Array (Option Value)} {file : Str} {tf : Tok}
    (l : K.lookup fI = some ⟨oc, od, .func (ksFn "__init__" qual (iA f p1 p2) (iB f m kk q1 q2 q3 q4 q5 q6 q7 q8 q9 q10) (iS f) .none .none doc pm an (.ref cda) ct cc), osl⟩) (cd : codeIn K (.ref cda) qual = true) (ln : (q3.endLine == q5.line) = true)
    (lc : K.lookup cda = some ⟨ccl, cdd, .fields vs, ccs⟩) (lf : vs[2]? = some (.str file tf)) (le : ((prog.main.file : Str) == file) = true) (cell : K.lookup cc = some ⟨cl, cld, .cell (some (.ref C)), csl⟩) : SupTxt K prog f C fI :=
  ⟨⟨_, _, _, _, _, _, _, _, _, _, _, _, _, _, _, hC, hbm⟩, sa, noN, iC, tC, kC, exC, tyC, vC, mC, al, sup, op, top, ⟨_, _, _, _, _, _, _, _, _, _, _, _, _, _, _, _, _, _, _, _, _, _, _, _, _, _, _, _, _, _, _, _, _, l, cd, ln, lc, lf, le, cell⟩⟩
theorem one_size (v : Value) : [v].length ≤ sizeLine := by
  rw [sizeLine_eq]
  exact (by decide : 1 ≤ 16777216)
/-- what __init__ leaves of a fresh exception at x -/
structure InitEnd (h h' : Heap) (x C dx t1 : Addr) (f : Str) (v : Value) : Prop where
  keep : ∀ b o, b ≠ x → h.get? b = some o → h'.get? b = some o
  obj : h'.get? x = some { cls := .ref C, dict := some dx, data := .fields #[.ref t1, .none, .none, .none, .bool false, .none] }
  dbig : h.objs.size ≤ dx
  dne : dx ≠ x
  ns : h'.Ns1 dx (fun y => if y = f then some v else none)
section
variable {prog : Program} {w : World} {A : Around} {E : Value → Shared → Prop} {R : Result → Shared → Prop} {s : Shared} {K : Frag} {mg mb : Str → Option Value} {C fI : Addr} {f : Str}
/-- super().__init__(..) called, a method-wrapper -/
theorem call_mw {hp : Heap} {g : Array GenState} {d : Drawn} {t : Nat} {os : OsState} {u e t0 : Addr} {rest : List Value} {Q : Value → Shared → Prop} {nm q : Str} {N : Addr} {bs bm : List Value} {sn : List Str} {sub : List Value} {ab : Bool} {col : Option Bool} {dd : Option Addr} {k0 k1 k2 k3 k5 : Option Value}
    (hC : hp.get? C = some (excClassObj nm q C N bs bm true sn sub ab col dd k0 k1 k2 k3 k5 "ValueError.__new__")) (he : hp.get? e = some (excO C t0)) (hu : hp.get? u = some (kxs_mw "ValueError.__init__" e)) (hrest : rest.length ≤ sizeLine)
    (hq : ∀ h' t1, (∀ b o, b ≠ e → hp.get? b = some o → h'.get? b = some o) → h'.get? e = some (excO C t1) → Q .none ⟨h', g, d, t, os⟩) :
    wpAny (model prog w) A (call (.ref u) rest) Q E ⟨hp, g, d, t, os⟩ := by
  refine wpAny_call (codeAny_of_tree ?_)
  show wpAny _ A.in1 (callAny (.ref u) ⟨rest, []⟩) _ _ _
  simp only [callAny]
  refine wpAny_bind (wpAny_load hu ?_)
  simp only [kxs_mw, show (Value.type "method-wrapper" == Value.type "method" || Value.type "method-wrapper" == Value.type "builtin_function_or_method" || Value.type "method-wrapper" == Value.type "method-wrapper") = true by decide, if_true]
  refine PySem.W.KFB.if_so (by decide) ?_
  refine wpAny_bind (check_bound_init F.excBase_ValueError.toExcCallFacts hC he rfl ?_)
  refine wpAny_bind (wpAny_pure (wpAny_pure ?_))
  refine ⟨plainId_quiet F.excBase_ValueError.init.plain _, codeAny_builtin F.excBase_ValueError.initEntry ?_⟩
  refine exc_init_tree (cls := .ref C) (t0 := t0) (dv := none) (c2 := .none) (c3 := .none) (b4 := .bool false) he hrest fun h' k e' t' => ?_
  exact hq h' _ k e'
/-- what the parameter's name must not be -/
structure Nf (f : Str) : Prop where
  bd : ∀ (qual : Str) (doc pm : Value) (an : Option Addr) (cdv ct : Value) (cc : Addr) (m : Str) (kk : Nat) (p1 p2 q1 q2 q3 q4 q5 q6 q7 q8 q9 q10 : Pos) (x v : Value), bindArgs (ksFn "__init__" qual (iA f p1 p2) (iB f m kk q1 q2 q3 q4 q5 q6 q7 q8 q9 q10) (iS f) .none .none doc pm an cdv ct cc) ⟨[x, v], []⟩ = pure [(("self" : Str), x), (f, v)]
  nc : ∀ y ∈ (iS f).names, y.2 ≠ .cell
  l1 : (iS f).names.lookup ("self" : Str) = some .local
  l2 : (iS f).names.lookup f = some .local
  l3 : (iS f).names.lookup ("__class__" : Str) = some .free
  l4 : (iS f).names.lookup ("super" : Str) = some .globalImplicit
  b1 : ∀ x v : Value, ([(("self" : Str), x), (f, v)] : List (Str × Value)).reverse.lookup ("self" : Str) = some x
  b2 : ∀ x v : Value, ([(("self" : Str), x), (f, v)] : List (Str × Value)).reverse.lookup f = some v
  db : (f == ("__debug__" : Str)) = false
theorem nf_of {f : Str} (hf : f = "reason" ∨ f = "at" ∨ f = "line") : Nf f := by
  rcases hf with rfl | rfl | rfl <;> exact ⟨by intros; first | rfl | with_unfolding_all rfl, by decide, by decide, by decide, by decide, by decide, fun _ _ => by first | rfl | with_unfolding_all rfl | kernel_rfl, fun _ _ => by first | rfl | with_unfolding_all rfl | kernel_rfl, by decide⟩
theorem sup_init (T : SupTxt K prog f C fI) (nf : Nf f) {x t0 : Addr} {v : Value} (X : K.In s.heap) (hg : s.heap.Ns mainGlobals mg) (hb : s.heap.Ns builtinsNs mb) (hbb : ∀ y : Str, y ≠ "__name__" → mb y = bootBuiltins y) (hlim : s.heap.NoLimit) (hx : s.heap.get? x = some (excO C t0)) (hnx : K.lookup x = none) (hroom : A.depth < recursionLimit)
    (hq : ∀ h' tk dx t1, InitEnd s.heap h' x C dx t1 f v → R (.ok (.ret .none)) { s with heap := h', toks := tk }) :
    codeAny (model prog w) A (.call (.ref fI) ⟨[.ref x, v], []⟩) R s := by
  obtain ⟨oc, od, qual, doc, pm, an, cda, ct, osl, m, kk, p1, p2, q1, q2, q3, q4, q5, q6, q7, q8, q9, q10, cc, ccl, cl, cdd, cld, vs, ccs, csl, file, tf, ho, hcd, hln, hcode, hvs, hfile, hcell⟩ := T.fn
  obtain ⟨nm, q, N, bs, bm, sn, sub, ab, col, dd, k0, k1, k2, k3, k5, hC, hbm⟩ := T.cls
  have hcl : clsIn K C = some { name := nm, bases := bs, mro := .ref C :: bm, ns := N, qualname := q, hasDict := true, slotNames := sn, subclasses := sub, abstract := ab, collection := col, hasDel := false } := by unfold clsIn; rw [hC] <;> rfl
  have hal : alongIn K "__init__" (((.ref C :: bm : List Value).dropWhile (· != .ref C)).drop 1) = some (some (.builtin "ValueError.__init__")) := by
    have := T.al
    unfold ks_superIn at this
    rw [hcl] at this
    exact this
  have bsup : bootBuiltins ("super" : Str) = some (.type "super") := by decide +kernel
  have hxC : x ≠ C := fun z => by
    rw [z] at hx
    have := X _ _ hC
    rw [hx] at this
    exact absurd (congrArg (fun o => (Option.map Obj.data o)) this) (by intro w; cases w)
  refine ks_codeAny_call_defAt (fd := ksFn "__init__" qual (iA f p1 p2) (iB f m kk q1 q2 q3 q4 q5 q6 q7 q8 q9 q10) (iS f) .none .none doc pm an (.ref cda) ct cc) (binds := [("self", .ref x), (f, v)]) hroom (X _ _ ho) rfl hlim (codeRec_of X hcd) rfl (BindsTo.of_eq (nf.bd ..)) nf.nc (by intro y hy; simp only [List.mem_cons, List.not_mem_nil, or_false] at hy; rcases hy with rfl | rfl; exact nf.l1; exact nf.l2) (fun h₁ hns kp => ?_) rfl rfl rfl
  have X1 : K.In h₁ := X.keeps kp
  have hx1 := kp _ _ hx
  have hg1 := hg.keeps kp
  have hb1 := hb.keeps kp
  refine ks_wpAt_execs_cons (ks_wpAt_Expr_any ?_)
  rw [arm_eval_Call]
  refine wpAt_bind (ks_wpAt_super_base (f := fI) (cc := cda) nf.l4 nf.l3 (by decide) rfl (X1 _ _ ho) rfl rfl rfl (X1 _ _ hcode) rfl hvs hfile T.top ?_)
  refine ks_loadName_global rfl nf.l4 (loadGlobal_builtin hg1 (mg_none_of X1 hg1 T.sup) hb1 ((hbb _ (by decide +kernel)).trans bsup) ⟨rfl, ?_⟩)
  refine wpAny_loadName_free rfl nf.l3 (by first | rfl | decide +kernel) ⟨_, X1 _ _ hcell, rfl⟩ ?_
  refine wpAny_loadName_local rfl nf.l1 hns (nf.b1 _ _) ?_
  refine ks_wpAny_isType_cls (X1 _ _ hC) rfl ⟨rfl, ?_⟩
  refine ks_wpAny_call_super (X1 _ _ hC) rfl hx1 rfl (by intro c e; cases e) (looks_mroIn X1 T.mC) (fun h2 e2 kp2 => ?_)
  have X2 : K.In h2 := X1.keeps kp2
  have hx2 := kp2 _ _ hx1
  have I2 : InstAt h2 x (excO C t0) C none := ⟨hx2, rfl, rfl, trivial⟩
  have hmro : Looks (model prog w) h2 (mroOf (.ref C)) (.ref C :: bm) := fun A Q E s k q => wpAny_bind ((looks_clsIn X2 hcl) A _ E s k (wpAny_pure q))
  refine wpAt_of_wpAny (wpAny_bind (wpAny_standAt ?_))
  have hpos : methodCallPos true (.Call (.Name "super" q1) [] [] q2) (callEnv (ksFn "__init__" qual (iA f p1 p2) (iB f m kk q1 q2 q3 q4 q5 q6 q7 q8 q9 q10) (iS f) .none .none doc pm an (.ref cda) ct cc) s.heap.objs.size fI) q3 q5 = pure q5 := by unfold methodCallPos; simp [hln]
  have hform : methodCallForm (([Expr.Constant (Const.str m) kk q4] : List Expr).length + ([] : List Keyword).length) (backTo q5 (starEach [Expr.Constant (Const.str m) kk q4] (callEnv (ksFn "__init__" qual (iA f p1 p2) (iB f m kk q1 q2 q3 q4 q5 q6 q7 q8 q9 q10) (iS f) .none .none doc pm an (.ref cda) ct cc) s.heap.objs.size fI))) (backToKw q5 (keywordEach [] (callEnv (ksFn "__init__" qual (iA f p1 p2) (iB f m kk q1 q2 q3 q4 q5 q6 q7 q8 q9 q10) (iS f) .none .none doc pm an (.ref cda) ct cc) s.heap.objs.size fI))) = true := by first | rfl | decide
  unfold methodCall
  rw [hform]
  refine wpAny_bind (wpAny_holding ?_)
  show wpAny _ _ (getMethod (.ref h₁.objs.size) "__init__" _) _ _ _
  refine kxs_getMethod kxs_ValueError e2 (looks_opaque X2 T.op) hmro rfl X2 hal (I2.type.andThen (looks_subIn X2 T.vC)) hxC (by decide) ?_
  refine wpAny_bind (wpAny_of_eq hpos ?_)
  have hsz : h2.objs.size ≠ x := Nat.ne_of_gt (Heap.lt_size hx2)
  refine kxs_callWith (i := "ValueError.__init__") (x := x) rfl (evalArgs_plain (spliced_cons (wpAny_Constant_str (pos := q4) (k := kk) (Calls.spliced_nil ⟨Heap.get?_push_at rfl rfl, ?_⟩))))
  refine call_mw (Heap.get?_push_of_some _ (X2 _ _ hC)) (Heap.get?_push_of_some _ hx2) (Heap.get?_push_at rfl rfl) (one_size _) fun h4 t1 k4 e4 => ?_
  -- self.f = f
  have k2 : ∀ b o, b ≠ x → s.heap.get? b = some o → h4.get? b = some o := fun b o nb e => k4 b o nb (Heap.get?_push_of_some _ (kp2 _ _ (kp _ _ e)))
  have hL4 : s.heap.objs.size ≠ x := Nat.ne_of_gt (Heap.lt_size hx)
  have hns4 : h4.Ns s.heap.objs.size (fun y => ([(("self" : Str), Value.ref x), (f, v)] : List (Str × Value)).reverse.lookup y) := hns.at fun o e => k4 _ o hL4 (Heap.get?_push_of_some _ (kp2 _ _ e))
  have X4 : K.In h4 := fun a o e => k2 a o (fun z => by rw [z, hnx] at e; cases e) (X a o e)
  refine ks_wpAt_execs_cons (ks_wpAt_Assign_Attr ?_)
  refine wpAt_of_wpAny (wpAny_Name (wpAny_loadName_local rfl nf.l2 hns4 (nf.b2 _ _) ?_) nf.db)
  refine wpAny_Name (wpAny_loadName_local rfl nf.l1 hns4 (nf.b1 _ _) ?_) (by decide)
  refine set_plain X4 (ox := excO C t1) (od := none) ⟨e4, rfl, rfl, trivial⟩ T.sa ?_
  refine exc_osa X4 e4 hcl (show refsVE (.ref C :: bm) = true from hbm) rfl T.noN (fun h₃ tk₃ dx k₃ dn dne hx₃ hn₃ => ?_)
  have z : s.heap.objs.size < h4.objs.size := hns4.lt
  exact wpAt_of_wpAny (wpAny_execs_nil (hq h₃ tk₃ dx t1 ⟨fun b o hb e => k₃ b o hb (k2 b o hb e), hx₃, Nat.le_of_lt (Nat.lt_of_lt_of_le z dn), dne, hn₃⟩))
/-- a made exception -/
structure OwnMade (h h' : Heap) (e C d : Addr) (f : Str) (v : Value) : Prop where
  keep : ∀ b o, h.get? b = some o → h'.get? b = some o
  new : h.objs.size ≤ e
  obj : ∃ oe vs, h'.get? e = some oe ∧ oe.cls = .ref C ∧ oe.dict = some d ∧ oe.data = .fields vs ∧ vs[1]? = some .none
  dbig : h.objs.size ≤ d
  dne : d ≠ e
  ns : h'.Ns1 d (fun y => if y = f then some v else none)
theorem sup_made (T : SupTxt K prog f C fI) (nf : Nf f) {v : Value} (X : K.In s.heap) (hg : s.heap.Ns mainGlobals mg) (hb : s.heap.Ns builtinsNs mb) (hbb : ∀ y : Str, y ≠ "__name__" → mb y = bootBuiltins y) (hlim : s.heap.NoLimit) (hroom : A.depth + 1 < recursionLimit)
    (hq : ∀ h' tk e d, OwnMade s.heap h' e C d f v → R (.ok (.ret (.ref e))) { s with heap := h', toks := tk }) :
    codeAny (model prog w) A (.call (.ref C) ⟨[v], []⟩) R s := by
  obtain ⟨nm, q, N, bs, bm, sn, sub, ab, col, dd, k0, k1, k2, k3, k5, hC, hbm⟩ := T.cls
  obtain ⟨hp, g, dr, tk, os⟩ := s
  have k : ∀ b o, hp.get? b = some o → ((hp.push (kdv_tup [v])).push (excO C hp.objs.size)).get? b = some o := fun b o e => Heap.get?_push_of_some _ (Heap.get?_push_of_some _ e)
  have hget : ((hp.push (kdv_tup [v])).push (excO C hp.objs.size)).get? (hp.objs.size + 1) = some (excO C hp.objs.size) := by heap_get
  have hnx : K.lookup (hp.objs.size + 1) = none := by
    cases e : K.lookup (hp.objs.size + 1) with
    | none => rfl
    | some o =>
      have z : hp.get? (hp.objs.size + 1) = some o := X _ _ e
      exact absurd (Nat.lt_of_succ_lt (Heap.lt_size z)) (Nat.lt_irrefl _)
  refine call_own F.excBase_ValueError (fun X => refsVE_contains X bm hbm) (X _ _ hC) (looks_findIn X T.iC) (fun self => bind_fn X self T.tC) (one_size v) ?_
  refine sup_init (s := ⟨(hp.push (kdv_tup [v])).push (excO C hp.objs.size), g, dr, tk, os⟩) T nf (X.keeps k) (hg.keeps k) (hb.keeps k) hbb (hlim.keeps k) hget hnx ?_ fun h' tk' dx t1 ⟨k', hx, dn, dne, hns⟩ => ?_
  · show A.depth + 1 < recursionLimit
    exact hroom
  · have old : ∀ b o, hp.get? b = some o → h'.get? b = some o := fun b o e => k' b o (Nat.ne_of_lt (Nat.lt_succ_of_lt (Heap.lt_size e))) (k b o e)
    have z : hp.objs.size + 1 + 1 ≤ dx := by
      first
        | (simpa only [Heap.size_push] using dn)
        | exact dn
        | (have q := dn; rw [Heap.size_push, Heap.size_push] at q; exact q)
    exact ⟨rfl, hq h' tk' (hp.objs.size + 1) dx ⟨old, Nat.le_succ _, ⟨_, _, hx, rfl, rfl, rfl, rfl⟩, Nat.le_trans (Nat.le_trans (Nat.le_succ _) (Nat.le_succ _)) z, dne, hns⟩⟩
end
end SupX
end PySem
namespace L2
open PySem PySem.Spec PyProof.Rows
theorem relO_one {f : Str} {v : V} {v' : Value} (r : RelV v v') (g : Str) : RelO (List.lookup g [(f, v)]) (if g = f then some v' else none) := by
  by_cases hw : g = f
  · subst hw
    rw [if_pos rfl]
    have q : List.lookup g [(g, v)] = some v := by simp [List.lookup]
    rw [q]
    exact r
  · rw [if_neg hw]
    have qw : (g == f) = false := by simpa using hw
    have q2 : List.lookup g [(f, v)] = none := by simp [List.lookup, qw]
    rw [q2]
    trivial
section
variable {X : Cx} {C fI : Addr} {f : Str}
/-- C(e) -/
def tMkSup (C : Addr) (f : Str) (ta : TA) : St → Hp → XK → Prop := fun σ H Q => ta σ H fun vs H1 => ∃ v, vs = [v] ∧ ∀ d, H1 d = none → Q (.ref C) (some d) (upd H1 d (.xd [(f, v)]))
theorem pmk_sup {x : Str} {a : Expr} {ta : TA} {p pos : Pos} {k : Nat} (T : PySem.SupX.SupTxt X.K X.prog f C fI) (nf : PySem.SupX.Nf f) (hr : Room k X.A) (hg : Gl X x) (hm : X.mg x = some (.ref C)) (hd : (x == ("__debug__" : Str)) = false) (ha : PA X [a] ta)
    (he : starEach (a :: []) X.env = (false, eval a X.env) :: starEach [] X.env) (hpl : (backTo pos (starEach [] X.env)).any (·.1) = false := by rfl) :
    PMk X (.Call (.Name x p) [a] [] pos) (tMkSup C f ta) := by
  intro pins s σ H Q I h
  refine wpAny_Call_Name_kw (ld_glob I hg hm ?_ hd)
  refine PySem.W.callWith_K (h₀ := X.base) I.ok.mod.kin T.kC (thn (ha.run pos pins s σ H _ I h) fun us s1 hh => ?_) he hpl
  obtain ⟨vs, H1, I1, r1, v, ev, q1⟩ := hh
  subst ev
  refine ⟨I1.kIn, ?_⟩
  cases r1 with
  | cons rv rr =>
    cases rr
    rename_i v'
    show wpAny _ _ (call (.ref C) [v']) _ _ _
    obtain ⟨hp, g, dr, tk, os⟩ := s1
    have bk : ∀ b o, X.base.get? b = some o → hp.get? b = some o := fun b o e => (I1.bs b o e).1
    obtain ⟨mb, hbn, hbb⟩ := I1.ok.mod.blt
    refine wpAny_call (PySem.SupX.sup_made (s := ⟨hp, g, dr, tk, os⟩) T nf I1.kIn (I1.ok.mod.glob.keeps bk) (hbn.keeps bk) hbb (I1.ok.mod.nolimit.keeps bk) ?_ fun h' tk' e d M => ?_)
    · have := hr.dp
      omega
    · show MkP X pins σ Q (.ref e) ⟨h', g, dr, tk', os⟩
      obtain ⟨oe, fv, hoe, hc, hd, hdat, h1⟩ := M.obj
      have hns := M.ns
      obtain ⟨G', g1, g2⟩ := restrict h' fun b => decide (b ≠ e)
      have gk : ∀ b, b ≠ e → G'.get? b = h'.get? b := fun b hb => g1 b (decide_eq_true hb)
      have ge : G'.get? e = none := g2 e (by simp)
      have old : ∀ b o, hp.get? b = some o → G'.get? b = some o := fun b o q => (gk b (Nat.ne_of_lt (Nat.lt_of_lt_of_le (Heap.lt_size q) M.new))).trans (M.keep b o q)
      have ob : ObjOk X.prog X.w (upd H1 d (.xd [(f, v)])) G' d (.xd [(f, v)]) :=
        ⟨_, hns.at (fun o q => (gk d M.dne).trans q), fun g => relO_one rv g⟩
      have J : Inv X pins σ (upd H1 d (.xd [(f, v)])) ⟨G', g, dr, tk', os⟩ := I1.laid (t' := tk') old M.dbig ob
      refine ⟨e, oe, fv, ⟨G', g, dr, tk', os⟩, _, .ref C, some d, rfl, J, fun b o q => ?_, ge, hoe, ⟨hc, hd⟩, hdat, h1, ?_, rfl, I1.bare, raises_own T.exC T.tyC, q1 d (I1.hok.fresh M.dbig)⟩
      · by_cases hb : b = e
        · have q' : G'.get? b = some o := q
          rw [hb, ge] at q'; cases q'
        · exact (gk b hb).symm.trans q
      · rw [upd_ne (Ne.symm M.dne)]
        exact I1.hok.fresh M.new
end
end L2

set_option maxHeartbeats 4000000
/-! exceptions: raise, try, what a suite's def does with the error -/
namespace Mi
open PySem PySem.Spec PyProof.Rows L2

/-! ### a def that is handed the caught exception -/
structure FnX (P : Program) (w : World) (K : PySem.W.Frag) (mg : Str → Option Value) (base : Heap) (k : Nat) (f : Addr) (fd : FuncData) (ps : List Str) (sp : Addr × Obj → Sp) : Prop where
  len : ∀ p vs H Q E, sp p vs H Q E → vs.length = ps.length
  run : ∀ (A : Around) (outer : List PySem.Env) (s : Shared) (H : Hp) (args : Args) (us : List Value) (vs : List V) (Q : VK) (p : Addr × Obj), L2H.RoomH k A → A.guards = some [] → L2H.PinOk outer H s p → Env0 P w K mg base A outer s H →
    BindsTo s fd args (ps.zip us) → Vals vs us → sp p vs H Q (fun _ _ _ => False) → codeAny (model P w) A (.call (.ref f) args) (CR (L2.CX P w) outer P w H s Q (fun _ _ _ => False)) s
theorem fn_x {P : Program} {w : World} {K : PySem.W.Frag} {mg : Str → Option Value} {base : Heap} {k : Nat} {f : Addr} {x qual : Str} {st : Stmt} {fd : FuncData} {N ps : List Str} {sp : Addr × Obj → Sp} (F : Fun K x qual st f fd) (S : FnScope N ps (defScope st)) (len : ∀ p vs H Q E, sp p vs H Q E → vs.length = ps.length)
    (body : ∀ (cdv : Value) (A : Around) (outer : List PySem.Env) (s : Shared) (H : Hp) (vs : List V) (Q : VK) (p : Addr × Obj), L2H.RoomH k (A.deeper (envOfC qual (defScope st) s.heap.objs.size f cdv)) → A.guards = some [] → sp p vs H Q (fun _ _ _ => False) →
      ∃ t, PSs (L2H.cxH (L2.CX P w) P w K mg base N qual (defScope st) f cdv A outer s H (fun _ _ _ => False) p) (defBody st) t ∧ t { nx := fun _ H' => Q .non H', rt := Q } (start N vs) H) : FnX P w K mg base (k + 1) f fd ps sp := by
  obtain ⟨oc, od, kV, doc, pm, an, cdv, ct, osl, rfl, lk, hcd⟩ := F.ex
  refine ⟨len, fun A outer s H args us vs Q p hr hg hpin e0 hb r hsp => ?_⟩
  have KX : K.In s.heap := e0.mod.kin.keeps fun b o e => (e0.bs b o e).1
  have lim : s.heap.NoLimit := e0.mod.nolimit.keeps fun b o e => (e0.bs b o e).1
  have kinds : ∀ y ∈ ps.zip us, (defScope st).names.lookup y.1 = some .local ∨ ((defScope st).names.lookup y.1 = some .cell ∧ ((cellsFrom (s.heap.objs.size + 1) (defScope st).names []).lookup y.1).isSome = true) := fun ⟨n, v⟩ hy =>
    (S.par n (List.of_mem_zip hy).1).imp id fun q => ⟨q, PySem.W.cellsFrom_some _ _ _ (.inl q)⟩
  refine codeAny_call_function hr.depth (KX _ _ lk) rfl S.co S.gen rfl (PySem.W.codeRec_of KX hcd) (hb _ _ _ _ ?_)
  refine wpAny_newFunctionEnv_cells S.kind kinds fun env he s1 z => ?_
  subst he
  refine ⟨lim.keeps z.toInCall.keep, codeAny_func ?_⟩
  obtain ⟨t, ht, hq⟩ := body cdv A outer s H vs Q p (hr.deeper _) hg hsp
  have I : Inv (L2H.cxH (L2.CX P w) P w K mg base N qual (defScope st) f cdv A outer s H (fun _ _ _ => False) p) [] (L2.start N vs) H s1 := L2H.inv_startH S hpin e0 (len _ _ _ _ _ hsp) r z
  refine wpAny_mono (ht.run [] s1 (start N vs) H _ I hq) (fun fl s' hs => ?_) fun e s' hs => hs
  match fl, hs with
  | .ret u, ⟨v, σ', H', J, rv, q⟩ => exact ⟨v, H', J.os, J.bare, J.base, J.hok, rv, q⟩
  | .next, ⟨σ', H', J, q⟩ => exact ⟨.non, H', J.os, J.bare, J.base, J.hok, rfl, q⟩
  | .brk, ⟨_, _, _, q⟩ => exact q.elim
  | .cont, ⟨_, _, _, q⟩ => exact q.elim

/-! ### the same data where an exception is pinned -/
section
variable {G : Gb} {H : Hp} {N : Addr → Prop} {p : Option (Addr × Obj)}
mutual
theorem DR.pin : ∀ (x : D) {v : V}, DR G H N v x → DR { G with pin := p } H N v x
  | .non, _, .non => .non
  | .bl _, _, .bl b => .bl b
  | .int _, _, .int i => .int i
  | .str _, _, .str s => .str s
  | .lst xs, _, .lst hd hn r => .lst hd hn (DRs.pin xs r)
  | .klst xs, _, .klst hd r => .klst hd (DRs.pin xs r)
  | .tup xs, _, .tup hd hn r => .tup hd hn (DRs.pin xs r)
  | .tup xs, _, .tupK hk r => .tupK hk (DRs.pin xs r)
  | .dct ks vs, _, .dct hd hn e r => .dct hd hn e (DRs.pin vs r)
  | .fn _, _, .fn i h => .fn (G := { G with pin := p }) i h
  | .ty _, _, .ty n => .ty n
  | .cls _, _, .cls i => .cls (G := { G with pin := p }) i
theorem DRs.pin : ∀ (xs : List D) {vs : List V}, DRs G H N vs xs → DRs { G with pin := p } H N vs xs
  | [], _, .nil => .nil
  | x :: xs, _, .cons q r => .cons (DR.pin x q) (DRs.pin xs r)
end
theorem CellR.pin {a : Addr} : ∀ {c : Cell}, CellR G H N a c → CellR { G with pin := p } H N a c
  | .lst xs, ⟨vs, e, r⟩ => ⟨vs, e, DRs.pin xs r⟩
  | .dct ks xs, ⟨us, e, z, r⟩ => ⟨us, e, z, DRs.pin xs r⟩
  | .gone, _ => trivial
theorem Sim.pin {M : Addr → Prop} {ρ : List Addr} {S : Store} (s : Sim G M H ρ S) : Sim { G with pin := p } M H ρ S :=
  ⟨s.len, s.uni, fun l a c e1 e2 => (s.cell l a c e1 e2).pin, s.all, s.apart, s.ap⟩
end
theorem pin_back (G : Gb) (p : Option (Addr × Obj)) : { { G with pin := p } with pin := G.pin } = G := rfl
theorem Sim.unpin {G : Gb} {p : Option (Addr × Obj)} {M : Addr → Prop} {H : Hp} {ρ : List Addr} {S : Store} (s : Sim { G with pin := p } M H ρ S) : Sim G M H ρ S := Sim.pin (G := { G with pin := p }) (p := G.pin) s
theorem DR.unpin {G : Gb} {p : Option (Addr × Obj)} {H : Hp} {N : Addr → Prop} {x : D} {v : V} (s : DR { G with pin := p } H N v x) : DR G H N v x := DR.pin (G := { G with pin := p }) (p := G.pin) x s

/-! ### what the written part says of the classes -/
/-- an exception class: how its instances are looked at -/
structure ClsA (K : PySem.W.Frag) (C : Addr) (f : Str) : Prop where
  cl : (PySem.W.clsIn K C).isSome = true
  ga : PySem.W.findIn K (.ref C) "__getattribute__" = some (some (.builtin "BaseException.__getattribute__"))
  gg : PySem.W.findIn K (.ref C) "__getattr__" = some none
  ex : PySem.W.subIn K (.ref C) (.type "BaseException") = some true
  ha : PySem.W.findIn K (.ref C) "__class__" = some (some (.builtin "object.__class__"))
  hn : PySem.W.specialIn K (.builtin "object.__class__") "__get__" = some (some (.builtin "getset_descriptor.__get__"))
  ht : PySem.W.takesIn K (.builtin "object.__class__") = some true
  hm : PySem.W.mroIn K C (.type "object") = some true
  hd : PySem.W.hasDictIn K C = true
  no : PySem.W.findIn K (.ref C) f = some none
section
variable {G : Gb} {W : WX} {X : Cx} {es : List Expr} {pos p1 p2 p3 : Pos} {n x : Str} {i : Nat}
theorem err_at {E : Env} {k : Nat} {a : D} (h : errAt E i = some (k, a)) : E[i]? = some (some (.err k a)) := by
  unfold errAt at h
  cases z : E[i]? with
  | none => rw [z] at h; cases h
  | some o => rw [z] at h; cases o with
    | none => cases h
    | some y => cases y with
      | err c a => cases h; rfl
      | _ => cases h
/-- isinstance of the pinned exception -/
def rIsX (X : Cx) : List V → Hp → VK → Prop := fun xs H Q => ∃ (a : Addr) (oe : Obj) (C dx : Addr) (f : Str) (v t : V) (tv : Value) (b : Bool), (a, oe) ∈ X.pn ∧ oe.cls = .ref C ∧ oe.dict = some dx ∧ (∃ vs, oe.data = .fields vs) ∧ ClsA X.K C f ∧ H dx = some (.xd [(f, v)]) ∧ xs = [.ref a, t] ∧ (∀ u, RelV t u → u = tv) ∧ PySem.W.kitOne X.K (.ref C) tv = some b ∧ Q (.bl b) H
theorem pin_inst {pins : List (Addr × Obj)} {s : Shared} {σ : L2.St} {H : Hp} {a C dx : Addr} {oe : Obj} {f : Str} {v : V} (I : Inv X pins σ H s) (hp : (a, oe) ∈ X.pn) (hc : oe.cls = .ref C) (hd : oe.dict = some dx) (hf : ∃ vs, oe.data = .fields vs) (hH : H dx = some (.xd [(f, v)])) :
    ∃ od u, PySem.W.InstAt s.heap a oe C (some od) ∧ PySem.W.lookIn f od = some (some u) ∧ RelV v u := by
  obtain ⟨ha, _⟩ := I.pin (a, oe) (List.mem_append_left _ hp)
  obtain ⟨vs, hdt⟩ := hf
  have hx : ObjOk X.prog X.w H s.heap dx (.xd [(f, v)]) := I.hok dx _ hH
  obtain ⟨mA, hns, hr⟩ := hx
  obtain ⟨od, ho, hl⟩ := lookIn_ns hns
  have l : List.lookup f [(f, v)] = some v := by simp [List.lookup]
  obtain ⟨u, hu, ru⟩ := RelO.some_of (v := v) (o := mA f) (by rw [← l]; exact hr f)
  exact ⟨od, u, ⟨ha, hc, by unfold PySem.W.notCls; rw [hdt] <;> rfl, by rw [hd]; exact ho⟩, by rw [hl, hu], ru⟩
theorem call_isX : CallR X (.builtin "isinstance") (rIsX X) := by
  intro pins s σ H xs us Q I r h
  obtain ⟨a, oe, C, dx, f, v, t, tv, b, hp, hc, hd, hf, A, hH, rfl, htv, e, q⟩ := h
  cases r with
  | cons rx rr =>
    cases rr with
    | cons rt rr =>
      cases rr
      cases rx
      have ec := htv _ rt
      subst ec
      obtain ⟨od, u, J, _, _⟩ := pin_inst I hp hc hd hf hH
      exact PySem.W.kia_one (PySem.W.kitx_exc A.cl A.ga A.gg A.ex A.ha A.hn A.ht A.hm) I.kIn J e (fun z => nomatch z) fun tk => ⟨.bl b, H, I.kept (t' := tk) fun _ _ z => z, rfl, q⟩
theorem ev_is {tv : Value} {t : V} {fb : Nat → Bool} {b2 : Expr} (hK : G.K = X.K) (hpin : ∀ p, G.pin = some p → p ∈ X.pn) (hcl : ∀ k, k < G.ncl → ClsA G.K (G.cad k) (G.fld k)) (hN : X.N[i]? = some n) (hv : Vis X.env.scope n) (hd1 : (n == ("__debug__" : Str)) = false) (hd2 : (n == ("__classdict__" : Str)) = false)
    (hgl : Gl X "isinstance") (hm : X.mg "isinstance" = none) (ht : PE X b2 (tC t)) (htv : ∀ u, RelV t u → u = tv) (hkit : ∀ k, k < G.ncl → PySem.W.kitOne G.K (.ref (G.cad k)) tv = some (fb k))
    (he : starEach [.Name n p2, b2] X.env = (false, eval (.Name n p2) X.env) :: starEach [b2] X.env) (he2 : starEach [b2] X.env = (false, eval b2 X.env) :: starEach [] X.env) :
    PE X (.Call (.Name "isinstance" p1) [.Name n p2, b2] [] pos) (tI G W fun E S => R.of ((errAt E i).map fun e => .d (.bl (fb e.1))) S) := by
  refine PE_imp (pe_callB call_isX hgl hm (by decide +kernel) (pa_cons (pe_var hN hv hd1 hd2) (pa_cons ht pa_nil he2) he) (by decide +kernel) (by decide) he (by rw [he2]; rfl)) fun σ H Q ⟨M, ρ, E, S, hE, hS, g⟩ => ?_
  obtain ⟨r, er, q⟩ := of_some g
  obtain ⟨⟨k, a⟩, e1, rfl⟩ := Option.map_eq_some_iff.mp er
  obtain ⟨v, h1, h2⟩ := hE.val i _ (err_at e1)
  cases h2 with
  | err hp hc hd hf hn hH nd h =>
    exact ⟨_, h1, _, _, _, _, _, _, t, tv, _, hpin _ hp, hc, hd, hf, hK ▸ hcl k hn, hH, rfl, htv, hK ▸ hkit k hn, q _ H Step.refl ⟨hS, .d (.bl _)⟩⟩
theorem ev_attr {f : Str} {cs : List Nat} (hK : G.K = X.K) (hpin : ∀ p, G.pin = some p → p ∈ X.pn) (hcl : ∀ k, k < G.ncl → ClsA G.K (G.cad k) (G.fld k)) (hN : X.N[i]? = some n) (hv : Vis X.env.scope n) (hd1 : (n == ("__debug__" : Str)) = false) (hd2 : (n == ("__classdict__" : Str)) = false)
    (hfl : ∀ k, cs.contains k = true → k < G.ncl → G.fld k = f) (hb : attributeBase (.Name n p1) f X.env (eval (.Name n p1) X.env) = eval (.Name n p1) X.env) :
    PE X (.Attribute (.Name n p1) f pos) (tI G W fun E S => R.of ((errAt E i).bind fun e => if cs.contains e.1 then some (.d e.2) else none) S) := by
  refine ⟨fun pins s σ H Q I ⟨M, ρ, E, S, hE, hS, g⟩ => ?_⟩
  obtain ⟨r, er, q⟩ := of_some g
  obtain ⟨⟨k, a⟩, e1, er⟩ := Option.bind_eq_some_iff.mp er
  obtain ⟨zc, rfl⟩ := of_if er
  obtain ⟨v, h1, h2⟩ := hE.val i _ (err_at e1)
  cases h2 with
  | err hp hc hd hf hn hH nd h =>
    rename_i ae oe dx w
    have ef := hfl k zc hn
    refine attr_of hb (thn ((pe_var (X := X) hN hv hd1 hd2).run pins s σ H (fun x H1 => x = .ref ae ∧ H1 = H) I ⟨_, h1, rfl, rfl⟩) fun u s1 hh => ?_)
    obtain ⟨x, H1, I1, rx, ex, eH⟩ := hh
    subst ex
    subst eH
    obtain rfl : u = Value.ref ae := rx
    rw [ef] at hH
    obtain ⟨od, u, J, hl, ru⟩ := pin_inst I1 (hpin _ hp) hc hd hf hH
    have A := hcl k hn
    rw [hK, ef] at A
    exact HandSPX.exc_get I1.kIn J A.ga A.gg A.ex (PySem.W.findObj_own A.hd A.no rfl hl) (handed_of ru) ⟨w, H1, I1.tok _, ru, q _ H1 Step.refl ⟨hS, .d h⟩⟩
/-- a local name that holds a def, called -/
theorem ev_dyn {ms : List Sm} {Fs : Fns} {k : Nat} (hK : G.K = X.K) (hfn : ∀ j, j < G.nfn → PySem.W.keepIn X.K (.ref (G.adr j)) = true ∧ ∃ fd ps, FnG X.prog X.w X.K X.mg X.base k (G.adr j) fd ps (spM G (Fs j)) ∧ Binds X.K fd ps []) (hr : Room k X.A) (hg : X.A.guards = some []) (tk : Takes X W)
    (hN : X.N[i]? = some n) (hv : Vis X.env.scope n) (hd1 : (n == ("__debug__" : Str)) = false) (hd2 : (n == ("__classdict__" : Str)) = false) (h : PA X es (tAs G W (evAll ms))) (hn : es = [] → ms = [])
    (he : ∀ a r, es = a :: r → starEach es X.env = (false, eval a X.env) :: starEach r X.env ∧ (backTo pos (starEach r X.env)).any (·.1) = false) :
    PE X (.Call (.Name n p1) es [] pos) (tI G W fun E S => match getV E i with
      | some (.d (.fn j)) => (evAll ms E S).bind fun vs S1 => (R.of (argsOf vs) S1).bind fun ws S1 => Fs j ws S1
      | _ => .no) := by
  refine ⟨fun pins s σ H Q I ⟨M, ρ, E, S, hE, hS, g⟩ => ?_⟩
  dsimp only at g
  cases z : getV E i with
  | none => rw [z] at g; exact g.elim
  | some v =>
    rw [z] at g
    match v, z, g with
    | .d (.fn j), z, g =>
      replace g : Got G W M σ ρ S H ((evAll ms E S).bind fun vs S1 => (R.of (argsOf vs) S1).bind fun ws S1 => Fs j ws S1) _ := g
      have e1 : E[i]? = some (some (.d (.fn j))) := by
        unfold getV at z
        cases y : E[i]? with
        | none => rw [y] at z; cases z
        | some o => rw [y] at z; cases o with
          | none => cases z
          | some w => cases z; rfl
      obtain ⟨v, h1, h2⟩ := hE.val i _ e1
      cases h2 with
      | d h2 =>
        cases h2 with
        | fn _ hj =>
          obtain ⟨hk, fd, ps, F, hb⟩ := hfn j hj
          have fin : ∀ {s : Shared} {us : List Value} {vs : List V} {S1 : Store} {H1 : Hp} {xs : List Val}, Inv X pins σ H1 s → Vals vs us → Step ρ S H S1 H1 → Sim G M H1 ρ S1 → ARs G H1 (Av M ρ S1) ρ vs xs →
              Got G W M σ ρ S H ((R.of (argsOf xs) S1).bind fun ws S1 => Fs j ws S1) (fun x S' => ∀ v H', Step ρ S H S' H' → Out G M H ρ S' v H' x → Q v H') → wpAny (model X.prog X.w) X.A (call (.ref (G.adr j)) us) (EP X pins σ Q) X.xe s := by
            intro s us vs S1 H1 xs I r t1 s1 rs g
            obtain ⟨ws, ew, g⟩ := of_some (Got.bind g)
            refine run_g F hr hg hb tk I r ⟨M, ρ, S1, ws, s1, ARs.args rs ew, ?_⟩
            exact got_slots (fun _ _ _ h => h) ((g.later t1).imp fun x S2 q v H2 t2 o2 => q v H2 (t1.trans t2) (o2.later t1 hS))
          refine wpAny_Call_Name_kw (thn ((pe_var (X := X) (pos := p1) hN hv hd1 hd2).run pins s σ H (fun x H1 => x = .ref (G.adr j) ∧ H1 = H) I ⟨_, h1, rfl, rfl⟩) fun u s0 hh => ?_)
          obtain ⟨x, H0, I0, rx, ex, eH⟩ := hh
          subst ex
          subst eH
          obtain rfl : u = Value.ref (G.adr j) := rx
          have run := fun (pos : Pos) => h.run pos pins s0 σ H0 (fun vs H1 => ∃ xs S1, Step ρ S H0 S1 H1 ∧ Sim G M H1 ρ S1 ∧ ARs G H1 (Av M ρ S1) ρ vs xs ∧ Got G W M σ ρ S H0 ((R.of (argsOf xs) S1).bind fun ws S1 => Fs j ws S1) (fun x S' => ∀ v H', Step ρ S H0 S' H' → Out G M H0 ρ S' v H' x → Q v H')) I0
            ⟨M, ρ, E, S, hE, hS, (Got.bind g).imp fun xs S1 g vs H1 t1 s1 r => ⟨xs, S1, t1, s1, r, g⟩⟩
          cases es with
          | nil =>
            have z := hn rfl
            subst z
            refine PySem.W.callWith_K0 I0.kIn hk ?_
            exact fin (xs := []) I0 .nil Step.refl hS .nil (Got.bind g)
          | cons a r =>
            obtain ⟨he1, he2⟩ := he a r rfl
            refine PySem.W.callWith_K (h₀ := X.base) I0.ok.mod.kin hk (thn (run pos) fun us s1 ⟨vs, H1, I1, r1, xs, S1, t1, sm, ar, g⟩ => ⟨I1.kIn, ?_⟩) he1 he2
            exact fin I1 r1 t1 sm ar g
end
end Mi

set_option maxHeartbeats 4000000
/-! raise, try -/
namespace Mi
open PySem PySem.Spec PyProof.Rows L2
section
variable {G : Gb} {W : WX} {X : Cx}
theorem upd_fresh {H : Hp} {d : Addr} {o : HO} (h : H d = none) : Same H (upd H d o) := fun a u e => by
  by_cases z : a = d
  · subst z; rw [h] at e; cases e
  · rw [upd_ne z]; exact e
theorem s_raise {ms : List Sm} {a : Expr} {x : Str} {c k : Nat} {fI : Addr} {p cp pos : Pos} (hc : X.calm = true) (tk : Takes X W) (T : PySem.SupX.SupTxt X.K X.prog (G.fld c) (G.cad c) fI) (nf : PySem.SupX.Nf (G.fld c)) (hcn : c < G.ncl) (hr : Room k X.A) (hg : Gl X x) (hm : X.mg x = some (.ref (G.cad c))) (hd : (x == ("__debug__" : Str)) = false)
    (ha : PA X [a] (tAs G W (evAll ms))) (he : starEach (a :: []) X.env = (false, eval a X.env) :: starEach [] X.env) : PS X (.Raise (some (.Call (.Name x p) [a] [] cp)) none pos) (tS G W fun E S => (evAll ms E S).bind fun vs S1 => match strictAll vs with
      | some [x] => .ex c x S1
      | _ => .no) := by
  refine PS_imp (ps_raise hc tk (pmk_sup T nf hr hg hm hd ha he)) fun D σ H ⟨M, ρ, E, S, hE, hS, g⟩ => ?_
  refine ⟨M, ρ, E, S, hE, hS, (GotS.ex g).imp fun xs S1 g vs H1 t s ar => ?_⟩
  split at g
  · rename_i y ey
    have r := ARs.strict ar ey
    cases r with
    | cons r rr =>
      rename_i vv _
      cases rr
      refine ⟨_, rfl, fun d hd => ?_⟩
      have sm := upd_fresh (o := .xd [(G.fld c, vv)]) hd
      exact g ρ σ _ _ _ (t.trans (Step.same sm)).far (s.same sm) ⟨rfl, hcn, d, _, rfl, upd_same, fun z => s.fit d z hd, r.same sm⟩
  · exact g.elim

/-! ### except C: return const -/
def kV : D → Option V
  | .non => some .non
  | .bl b => some (.bl b)
  | .int i => some (.int i)
  | .str s => some (.str s)
  | _ => none
theorem kV_dr {d : D} {v : V} {H : Hp} {N : Addr → Prop} (h : kV d = some v) : DR G H N v d := by
  cases d <;> first | (cases h; constructor) | cases h
def kC : D → Option Const
  | .non => some .none
  | .bl b => some (.bool b)
  | .int i => some (.int i)
  | .str s => some (.str s)
  | _ => none
theorem kV_pe {d : D} {v : V} {c : Const} {kk : Nat} {pos : Pos} (h : kV d = some v) (hc : kC d = some c) : PE X (.Constant c kk pos) (tC v) := by
  cases d <;> first | (cases h; cases hc; first | exact pe_non | exact pe_bl | exact pe_int | exact pe_str) | cases h
theorem s_tryR {b : SM} {body : List Stmt} {x : Str} {c kk : Nat} {d : D} {v : V} {cc : Const} {subs : List Nat} {np pos pos' kp rp : Pos} (hs : X.stack = X.env :: X.outer) (hf : X.env.frame = some X.env.locals) (hc : Names X x (.ref (G.cad c))) (tk : Takes X W) (hK : G.K = X.K)
    (hb : ∀ (W' : WX) (pn : List (Addr × Obj)) (xe : Value → Shared → Prop), Takes (X.tr pn xe) W' → PassesOwn (model X.prog X.w) X.A X.env xe → PSs (X.tr pn xe) body (tS G W' b))
    (hex : ∀ k, k < G.ncl → PySem.W.exmOne G.K (.ref (G.cad k)) (.ref (G.cad c)) = some (subs.contains k)) (hv : kV d = some v) (hcc : kC d = some cc) :
    PS X (.Try body [.ExceptHandler (some (.Name x np)) none [.Return (some (.Constant cc kk kp)) rp] pos'] [] [] pos) (tS G W fun E S => match b E S with
      | .ok p S1 => .ok p S1
      | .ex k a S1 => if subs.contains k then .ok (.rt (.d d), E) S1 else .ex k a S1
      | .no => .no) := by
  refine PS_imp (ps_try_only (ts := fun _ _ _ D _ H => D.rt v H) hs hf hc tk hb fun a oe cls d' pn _ _ => ?_) fun D σ H ⟨M, ρ, E, S, hE, hS, g⟩ => ⟨M, ρ, E, S, hE, hS, ?_⟩
  · exact PSs_imp (pss_cons (ps_ret (kV_pe hv hcc)) pss_nil) fun D σ H h => h
  · dsimp only at g
    cases q : b E S with
    | no => rw [q] at g; exact g.elim
    | ok p S1 => rw [q] at g; exact g
    | ex k a S1 =>
      rw [q] at g
      intro ρ' σ' cls dx H' t s e
      have e' := e
      obtain ⟨e1, e2, _⟩ := e
      subst e1
      refine ⟨subs.contains k, hK ▸ hex k e2, fun hk _ _ => ?_, fun hk => ?_⟩
      · dsimp only at g
        rw [if_pos hk] at g
        exact g ρ' σ' H' t v ⟨s, .d (kV_dr hv)⟩
      · dsimp only at g
        rw [if_neg (by rw [hk]; exact Bool.false_ne_true)] at g
        exact g ρ' σ' _ dx H' t s e'

/-! ### except C as n: return f(n) -/
theorem run_x {k : Nat} {f : Addr} {fd : FuncData} {ps : List Str} {sp : Addr × Obj → Sp} {p : Addr × Obj} {pins : List (Addr × Obj)} {σ : L2.St} {H : Hp} {s : Shared} {Q : VK} {us : List Value} {vs : List V} (F : FnX X.prog X.w X.K X.mg X.base k f fd ps sp) (hr : L2H.RoomH k X.A) (hg : X.A.guards = some []) (hb : Binds X.K fd ps []) (tk : Takes X WN) (hp : p ∈ X.pn)
    (I : Inv X pins σ H s) (r : Vals vs us) (h : sp p vs H Q (fun _ _ _ => False)) : wpAny (model X.prog X.w) X.A (call (.ref f) us) (EP X pins σ Q) X.xe s := by
  have hl : (us ++ []).length = ps.length := by rw [List.append_nil, ← r.length]; exact F.len _ _ _ _ _ h
  have b := hb s us I.kIn hl
  rw [List.append_nil] at b
  have P1 := I.pin p (List.mem_append_left _ hp)
  have hpin : L2H.PinOk X.stack H s p := ⟨P1.1, P1.2.1, fun hm => (List.mem_cons.mp (I.stkSub p.1 hm)).elim P1.2.2.1 P1.2.2.2.1, P1.2.2.2.2⟩
  refine wpAny_call (codeAny_mono (F.run X.A X.stack s H ⟨us, []⟩ us vs Q p hr hg hpin I.env0 b r h) fun r s' q => ?_)
  match r, q with
  | .error e, q => exact passAt tk σ pins H s e s' I q
  | .ok (.ret u), q => exact I.after q
theorem s_tryF {b : SM} {F : List Val → Store → R Val} {body : List Stmt} {x n fx : Str} {c i k : Nat} {f : Addr} {fd : FuncData} {ps : List Str} {subs : List Nat} {np pos pos' p1 p2 cp rp : Pos} (hs : X.stack = X.env :: X.outer) (hf : X.env.frame = some X.env.locals) (hN : X.N.Nodup) (hi : X.N[i]? = some n) (hln : X.env.kindOf n = some .local) (hd1 : (n == ("__debug__" : Str)) = false) (hd2 : (n == ("__classdict__" : Str)) = false)
    (hc : Names X x (.ref (G.cad c))) (tk : Takes X W) (hK : G.K = X.K)
    (hF : FnX X.prog X.w X.K X.mg X.base k f fd ps (fun p => spM { G with pin := some p } F)) (hr : L2H.RoomH k X.A) (hgd : X.A.guards = some []) (hbd : Binds X.K fd ps []) (hgl : Gl X fx) (hm : X.mg fx = some (.ref f)) (hk : PySem.W.keepIn X.K (.ref f) = true) (hdb : (fx == ("__debug__" : Str)) = false)
    (hb : ∀ (W' : WX) (pn : List (Addr × Obj)) (xe : Value → Shared → Prop), Takes (X.tr pn xe) W' → PassesOwn (model X.prog X.w) X.A X.env xe → PSs (X.tr pn xe) body (tS G W' b))
    (hex : ∀ k, k < G.ncl → PySem.W.exmOne G.K (.ref (G.cad k)) (.ref (G.cad c)) = some (subs.contains k)) :
    PS X (.Try body [.ExceptHandler (some (.Name x np)) (some n) [.Return (some (.Call (.Name fx p1) [.Name n p2] [] cp)) rp] pos'] [] [] pos) (tS G W fun E S => match b E S with
      | .ok p S1 => .ok p S1
      | .ex k a S1 => if subs.contains k then (match F [.err k a] S1 with
        | .ok (.d x) S2 => .ok (.rt (.d x), E) S2
        | _ => .no) else .ex k a S1
      | .no => .no) := by
  refine PS_imp (ps_try_as (i := i) (ts := fun a cls dd D σ H => (∃ τ : L2.St, σ = τ.set i (some (.ref a))) ∧ ∀ oe : Obj, Zc cls dd oe → (∃ vs, oe.data = .fields vs) → spM { G with pin := some (a, oe) } F [.ref a] H D.rt (fun _ _ _ => False)) hs hf hN hi hln hc tk hb fun a oe cls d' pn hz hfs => ?_) fun D σ H ⟨M, ρ, E, S, hE, hS, g⟩ => ⟨M, ρ, E, S, hE, hS, ?_⟩
  · have pe : PE (X.suite a ((a, oe) :: pn)) (.Call (.Name fx p1) [.Name n p2] [] cp) (fun σ H Q => (∃ τ : L2.St, σ = τ.set i (some (.ref a))) ∧ spM { G with pin := some (a, oe) } F [.ref a] H Q (fun _ _ _ => False)) := by
      refine ⟨fun pins s σ H Q I ⟨⟨τ, e⟩, h⟩ => ?_⟩
      have hl : i < τ.length := by
        have q := I.len
        rw [e, List.length_set] at q
        rw [q]
        exact (List.getElem?_eq_some_iff.mp hi).1
      refine wpAny_Call_Name_kw (ld_glob (X := X.suite a ((a, oe) :: pn)) I hgl hm ?_ hdb)
      have pv : PE (X.suite a ((a, oe) :: pn)) (.Name n p2) (tVar i) := pe_var hi (.inl hln) hd1 hd2
      refine PySem.W.callWith_K (h₀ := X.base) I.ok.mod.kin hk (thn ((pa_cons pv pa_nil rfl).run cp pins s σ H (fun vs H1 => vs = [.ref a] ∧ H1 = H) I ⟨.ref a, by rw [e, List.getElem?_set_self hl], rfl, rfl⟩) fun us s1 ⟨vs, H1, I1, r, e1, e2⟩ => ⟨I1.kIn, ?_⟩) rfl rfl
      subst e1
      subst e2
      exact run_x (X := X.suite a ((a, oe) :: pn)) (p := (a, oe)) hF ⟨hr.dp, hr.un⟩ hgd hbd (fun u s' ⟨_, _, _, _, _, _, _, _, _, _, _, _, _, _, _, _, w⟩ => w.elim) List.mem_cons_self I1 r h
    exact PSs_imp (pss_cons (ps_ret pe) pss_nil) fun D σ H ⟨h1, h2⟩ => ⟨h1, h2 oe hz hfs⟩
  · dsimp only at g
    cases q : b E S with
    | no => rw [q] at g; exact g.elim
    | ok p S1 => rw [q] at g; exact g
    | ex k a S1 =>
      rw [q] at g
      intro ρ' σ' cls dx H' t s e
      have e' := e
      obtain ⟨e1, e2, dx', v, e3, e4, e5, e6⟩ := e
      subst e1
      subst e3
      refine ⟨subs.contains k, hK ▸ hex k e2, fun hk ad _ => ⟨⟨σ', rfl⟩, fun oe hz hfs => ?_⟩, fun hk => ?_⟩
      · dsimp only at g
        rw [if_pos hk] at g
        refine ⟨M, ρ', S1, [.err k a], s.pin, .cons (.err rfl hz.1 hz.2 hfs e2 e4 e5 (e6.pin _)) .nil, ?_⟩
        cases z : F [.err k a] S1 with
        | no => rw [z] at g; exact g.elim
        | ex _ _ _ => rw [z] at g; exact g.elim
        | ok y S2 =>
          rw [z] at g
          cases y with
          | d y => exact fun w H2 t2 o => g ρ' σ' H2 (t.trans s.all t2.far) w ⟨o.1.unpin, by
              have o2 := o.2
              cases o2 with
              | d o2 => exact .d o2.unpin⟩
          | _ => exact g.elim
      · dsimp only at g
        rw [if_neg (by rw [hk]; exact Bool.false_ne_true)] at g
        exact g ρ' σ' _ _ H' t s e'

/-! ### list.count, list.index -/
def PM.nm : PM → Str
  | .lcount => "count"
  | .lindex => "index"
def rCountD (K : PySem.W.Frag) : V → List V → Hp → VK → Prop := fun x xs H Q => ∃ (a : Addr) (y : V) (d : PyData) (ds : List PyData), x = V.ref a ∧ xs = [y] ∧ Dp K H (V.ref a) (.list ds) ∧ Dp K H y d ∧
  SeqAt.shaped (.list ds) = true ∧ SeqAt.shaped d = true ∧ PyData.plainAll ds = true ∧ d.plain = true ∧ Q (.int ((ds.countP fun z => PyData.eqv z d : Nat) : Int)) H
theorem mt_countD (hu : X.A.units + 65 < cLine) : MtR X "list.count" (rCountD X.K) := by
  intro pins s σ H x xs v us Q I rx rxs h
  obtain ⟨a, y, d, ds, rfl, rfl, hl, hy, sl, sd, pl, pd, q⟩ := h
  cases rx
  cases rxs with
  | cons ry rt =>
    rename_i uy ut
    cases rt
    obtain ⟨bs, r1⟩ := Dp.reads I d y uy hy ry
    cases hl with
    | lst hs ha =>
      obtain ⟨its, rv, hi, hlen⟩ := I.list hs
      obtain ⟨as, h4⟩ := Dp.readsAll I ds _ its ha rv
      exact SeqAt.count_list_data (vs := its.toArray) hi.isList h4 r1 pl pd (room_in_shaped sd hu) ⟨.int _, H, I.tok _, ⟨_, rfl⟩, q⟩
theorem ev_pm {m : PM} {nm : Str} {ma : Sm} {ms : List Sm} {a b : Expr} {es : List Expr} {apos pos : Pos} (hG : G.K = X.K) (hu : X.A.units + 65 < cLine) (hnm : nm = m.nm) (ha : PE X a (tI G W ma.ev)) (h : PA X (b :: es) (tAs G W (evAll ms))) (hbase : attributeBase a nm X.env (eval a X.env) = eval a X.env)
    (hfew : ((backTo pos (starEach (b :: es) X.env)).all (fun x => !x.1) && (backToKw pos (keywordEach [] X.env)).all (fun x => x.1.isSome)
      && decide ((b :: es).length + ([] : List Keyword).length + (if ([] : List Keyword).isEmpty then 0 else 1) < 30)) = true) (hline : (apos.endLine == pos.line) = true) (hs : starEach (b :: es) X.env = (false, eval b X.env) :: starEach es X.env) (hpl : (backTo pos (starEach es X.env)).any (·.1) = false) :
    PE X (.Call (.Attribute a nm apos) (b :: es) [] pos) (tI G W fun E S => (ma.ev E S).bind fun v S1 => (R.of (v.dat.bind (recvP m)) S1).bind fun x S1 => (evAll ms E S1).bind fun vs S2 => R.of ((peeks S2 vs).bind fun xs => pmD m x xs) S2) := by
  subst hnm
  cases m with
  | lcount =>
    refine PE_imp (pe_bm PySem.F.plainAttrs_list PySem.F.slot_list_count PySem.F.type_list_count (mt_countD hu) ha h hbase hfew hline hs hpl) fun σ H Q ⟨M, ρ, E, S, hE, hS, g⟩ => ⟨M, ρ, E, S, hE, hS, (Got.bind g).imp fun x S1 g v H1 t1 o1 => ?_⟩
    obtain ⟨xs, er, g⟩ := of_some (Got.bind g)
    obtain ⟨d, ed, er⟩ := Option.bind_eq_some_iff.mp er
    cases d with
    | lst zs =>
      cases er
      have hd := o1.ar.dat ed
      obtain ⟨p, vs0, rfl, k1, k2, k3⟩ := hd.listR
      have s1 := o1.sim
      refine ⟨.inl ⟨rfl, vs0, .inl k1⟩, M, ρ, E, S1, hE.step t1, s1, ((Got.bind g).later t1).imp fun ws S2 g vs H2 t2 s2 r => ?_⟩
      obtain ⟨y, ey, q⟩ := of_some g
      obtain ⟨ds, e1, ey⟩ := Option.bind_eq_some_iff.mp ey
      have rs := ARs.peeks s2 r e1
      match ds, rs, ey with
      | [d1], .cons r1 .nil, ey =>
        have ey : ((pys zs).bind fun ps => d1.py.bind fun p => if SeqAt.shaped (.list ps) && SeqAt.shaped p then some (Val.d (.int ((ps.countP fun z => PyData.eqv z p : Nat) : Int))) else none) = some y := ey
        obtain ⟨ps, e2, ey⟩ := Option.bind_eq_some_iff.mp ey
        obtain ⟨p', e3, ey⟩ := Option.bind_eq_some_iff.mp ey
        obtain ⟨z, rfl⟩ := of_if ey
        obtain ⟨z1, z2⟩ := Bool.and_eq_true_iff.mp z
        have hl : Dp X.K H2 (.ref p) (.list ps) := hG ▸ DR.dp (.lst zs) (hd.step t2) (by show (pys zs).map PyData.list = _; rw [e2]; rfl)
        exact ⟨p, _, p', ps, rfl, rfl, hl, hG ▸ r1.dp e3, z1, z2, PyData.plainAll_of_canLay0 ps (SeqAt.canLay_of_shaped z1), PyData.plain_of_canLay0 p' (SeqAt.canLay_of_shaped z2), q _ H2 (t1.trans t2) ⟨s2, .d (.int _)⟩⟩
      | [], _, ey => cases ey
      | _ :: _ :: _, _, ey => cases ey
    | _ => cases er
  | lindex =>
    refine PE_imp (pe_bm PySem.F.plainAttrs_list PySem.F.slot_list_index PySem.F.type_list_index (mt_indexD hu) ha h hbase hfew hline hs hpl) fun σ H Q ⟨M, ρ, E, S, hE, hS, g⟩ => ⟨M, ρ, E, S, hE, hS, (Got.bind g).imp fun x S1 g v H1 t1 o1 => ?_⟩
    obtain ⟨xs, er, g⟩ := of_some (Got.bind g)
    obtain ⟨d, ed, er⟩ := Option.bind_eq_some_iff.mp er
    cases d with
    | lst zs =>
      cases er
      have hd := o1.ar.dat ed
      obtain ⟨p, vs0, rfl, k1, k2, k3⟩ := hd.listR
      have s1 := o1.sim
      refine ⟨.inl ⟨rfl, vs0, .inl k1⟩, M, ρ, E, S1, hE.step t1, s1, ((Got.bind g).later t1).imp fun ws S2 g vs H2 t2 s2 r => ?_⟩
      obtain ⟨y, ey, q⟩ := of_some g
      obtain ⟨ds, e1, ey⟩ := Option.bind_eq_some_iff.mp ey
      have rs := ARs.peeks s2 r e1
      match ds, rs, ey with
      | [d1], .cons r1 .nil, ey =>
        have ey : ((pys zs).bind fun ps => d1.py.bind fun p => if SeqAt.shaped (.list ps) && SeqAt.shaped p then (ps.findIdx? fun z => PyData.eqv z p).map fun j => Val.d (.int (j : Nat)) else none) = some y := ey
        obtain ⟨ps, e2, ey⟩ := Option.bind_eq_some_iff.mp ey
        obtain ⟨p', e3, ey⟩ := Option.bind_eq_some_iff.mp ey
        by_cases z : (SeqAt.shaped (.list ps) && SeqAt.shaped p') = true
        · rw [if_pos z] at ey
          obtain ⟨z1, z2⟩ := Bool.and_eq_true_iff.mp z
          obtain ⟨j, ej, rfl⟩ := Option.map_eq_some_iff.mp ey
          obtain ⟨hj, hz, hno⟩ := List.findIdx?_eq_some_iff_getElem.mp ej
          have hl : Dp X.K H2 (.ref p) (.list ps) := hG ▸ DR.dp (.lst zs) (hd.step t2) (by show (pys zs).map PyData.list = _; rw [e2]; rfl)
          refine ⟨p, _, p', ps, j, ps[j], rfl, rfl, hl, hG ▸ r1.dp e3, z1, z2, List.getElem?_eq_getElem hj, hz, fun m z' hm e => ?_, q _ H2 (t1.trans t2) ⟨s2, .d (.int _)⟩⟩
          obtain ⟨hm', e⟩ := List.getElem?_eq_some_iff.mp e
          rw [← e]
          simpa using hno m hm
        · rw [if_neg z] at ey; cases ey
      | [], _, ey => cases ey
      | _ :: _ :: _, _, ey => cases ey
    | _ => cases er
end
end Mi

set_option maxHeartbeats 4000000
/-! a, b = [], e; o[i], p[j] = e -/
namespace Mi
open PySem PySem.Spec PyProof.Rows L2
section
variable {G : Gb} {W : WX} {M : Addr → Prop} {σ : L2.St} {ρ : List Addr} {S S1 : Store} {H H1 : Hp} {E : Env}
/-- a new object becomes a cell -/
theorem own_in {p : Addr} {c : Cell} (t : Step ρ S H S1 H1) (hp : H p = none) (np : ¬ Av M ρ S1 p) (no : ∀ l : Nat, ρ[l]? ≠ some p) (lv : c.lives) (s1 : Sim G (And1 M p) H1 ρ S1) (r : CellR G H1 (Av (And1 M p) ρ S1) p c) :
    Sim G M H1 (ρ ++ [p]) (S1 ++ [c]) ∧ Far ρ S H (ρ ++ [p]) (S1 ++ [c]) H1 ∧ (ρ ++ [p])[S1.length]? = some p ∧ ∀ a, Av M (ρ ++ [p]) (S1 ++ [c]) a → Av M ρ S a ∨ H a = none := by
  have sl : ρ.length = S1.length := s1.len
  have last0 : ∀ {l : Nat} {a : Addr}, ¬ l < ρ.length → (ρ ++ [p])[l]? = some a → l = S1.length ∧ p = a := fun {l a} hl e => by
    have hlt := (List.getElem?_eq_some_iff.mp e).1
    rw [List.getElem?_append_right (by omega)] at e
    have e0 : l - ρ.length = 0 := by
      simp at hlt
      omega
    rw [e0] at e
    exact ⟨by omega, by simpa using e⟩
  have lastA : (ρ ++ [p])[S1.length]? = some p := by rw [← sl, List.getElem?_append_right (Nat.le_refl _), Nat.sub_self]; rfl
  have lastC : (S1 ++ [c])[S1.length]? = some c := by rw [List.getElem?_append_right (Nat.le_refl _), Nat.sub_self]; rfl
  have get : ∀ (l : Nat) a c', (ρ ++ [p])[l]? = some a → (S1 ++ [c])[l]? = some c' → (ρ[l]? = some a ∧ S1[l]? = some c') ∨ (l = S1.length ∧ a = p ∧ c' = c) := fun l a c' z1 z2 => by
    by_cases hl : l < ρ.length
    · rw [List.getElem?_append_left hl] at z1
      rw [List.getElem?_append_left (by omega)] at z2
      exact .inl ⟨z1, z2⟩
    · obtain ⟨e1, e2⟩ := last0 hl z1
      subst e1
      rw [lastC] at z2
      cases z2
      exact .inr ⟨rfl, e2.symm, rfl⟩
  have live : ∀ a, Live (ρ ++ [p]) (S1 ++ [c]) a → Live ρ S1 a ∨ a = p := fun a ⟨l, z1, c', z2, z3⟩ => by
    rcases get l a c' z1 z2 with ⟨u1, u2⟩ | ⟨_, u2, _⟩
    · exact .inl ⟨l, u1, c', u2, z3⟩
    · exact .inr u2
  have liveP : Live (ρ ++ [p]) (S1 ++ [c]) p := ⟨S1.length, lastA, c, lastC, lv⟩
  have av : ∀ a, Av M (ρ ++ [p]) (S1 ++ [c]) a → Av (And1 M p) ρ S1 a := fun a z => by
    rcases z with z | z
    · exact (live a z).elim .inl fun e => .inr (.inr e)
    · exact .inr (.inl z)
  refine ⟨⟨by simp [sl], fun l k a ⟨z1, c1, z2, z3⟩ ⟨y1, c2, y2, y3⟩ => ?_, fun l a c' z1 z2 => ?_, fun l a e => ?_, fun a z => s1.apart a (.inl z), fun l a e z => ?_⟩, ⟨t.keep, fun a z => (live a z).imp (t.live a) fun e => by rw [e]; exact hp, fun l a e => by rw [List.getElem?_append_left (List.getElem?_eq_some_iff.mp e).1]; exact e, fun l a hl e => ?_⟩, lastA, fun a z => (av a z).elim (fun z => .inl (t.av a (.inl z))) fun z => z.elim (fun z => .inl (.inr z)) fun e => .inr (by rw [e]; exact hp)⟩
  · rcases get l a c1 z1 z2 with ⟨u1, u2⟩ | ⟨u1, u2, _⟩
    · rcases get k a c2 y1 y2 with ⟨w1, w2⟩ | ⟨w1, w2, _⟩
      · exact s1.uni l k a ⟨u1, c1, u2, z3⟩ ⟨w1, c2, w2, y3⟩
      · exact absurd (w2 ▸ u1) (no l)
    · rcases get k a c2 y1 y2 with ⟨w1, w2⟩ | ⟨w1, w2, _⟩
      · exact absurd (u2 ▸ w1) (no k)
      · rw [u1, w1]
  · rcases get l a c' z1 z2 with ⟨u1, u2⟩ | ⟨u1, u2, u3⟩
    · exact (s1.cell l a c' u1 u2).less av
    · rw [u2, u3]; exact r.less av
  · by_cases hl : l < ρ.length
    · rw [List.getElem?_append_left hl] at e
      exact s1.all l a e
    · exact s1.apart a (.inr (last0 hl e).2.symm)
  · by_cases hl : l < ρ.length
    · rw [List.getElem?_append_left hl] at e
      exact s1.ap l a e (.inl z)
    · exact np (.inr ((last0 hl e).2 ▸ z))
  · rw [← (last0 (by omega) e).2]; exact hp
/-- the cell stays while it is apart -/
theorem CellR.step {p : Addr} {c : Cell} (t : Step ρ S H S1 H1) (np : ¬ Live ρ S p) (r : CellR G H (Av M ρ S) p c) : CellR G H1 (Av M ρ S1) p c := by
  cases c with
  | lst xs => obtain ⟨vs, e, r⟩ := r; exact ⟨vs, t.keep _ _ e np, r.step t⟩
  | dct ks vs => obtain ⟨us, e, z, r⟩ := r; exact ⟨us, t.keep _ _ e np, z, r.step t⟩
  | gone => trivial
end
section
variable {G : Gb} {W : WX} {X : Cx}
theorem s_asgP {i j : Nat} {m1 m2 : Sm} {x y : Str} {a b : Expr} {px py pt pos : Pos} {kt k2 : Nat} {pt2 : Pos} (hc : X.calm = true) (hN : X.N.Nodup) (hi : X.N[i]? = some x) (hj : X.N[j]? = some y) (hij : i ≠ j)
    (hx : X.env.scope.names.lookup x = some .local) (hy : X.env.scope.names.lookup y = some .local) (ha : PE X a (tI G W m1.ev)) (hb : PE X b (tI G W m2.ev)) (he : starEach [a, b] X.env = (false, eval a X.env) :: starEach [b] X.env) (he2 : starEach [b] X.env = (false, eval b X.env) :: starEach [] X.env)
    (hw : swappedStores [.Tuple [.Name x px, .Name y py] kt pt] (.Tuple [a, b] k2 pt2) X.env = pure (some [x, y])) (hs : swapsWithSole [.Tuple [.Name x px, .Name y py] kt pt] (.Tuple [a, b] k2 pt2) pos.line X.env = pure false) :
    PS X (.Assign [.Tuple [.Name x px, .Name y py] kt pt] (.Tuple [a, b] k2 pt2) pos) (tS G W fun E S => (m1.ev E S).bind fun v S1 => (m2.ev E S1).bind fun w S2 => match v, w with
      | .own c, .d y => if i < E.length then .ok (.nx, (E.set i (some (.ref S2.length))).set j (some (.d y))) (S2 ++ [c]) else .no
      | _, _ => .no) := by
  refine PS_imp (ps_par hc hN hi hj hij hx hy (pa_cons ha (pa_cons hb pa_nil he2) he) hw hs) fun D σ H ⟨M, ρ, E, S, hE, hS, g⟩ => ?_
  refine ⟨M, ρ, E, S, hE, hS, (GotS.ex g).imp fun v S1 g vv H1 t o => ?_⟩
  cases v with
  | own c =>
    obtain ⟨p, rfl, hp, np, no, lv, s1, r⟩ := o
    have far1 : ∀ a, Av (And1 M p) ρ S1 a → Av M ρ S a ∨ H a = none := fun a z => (av_and.mp z).elim (fun z => .inl (t.av a z)) fun e => .inr (by rw [e]; exact hp)
    have hE1 : EnvR G H1 (Av (And1 M p) ρ S1) ρ σ E := hE.mono t.keep' far1
    refine ⟨And1 M p, ρ, E, S1, hE1, s1, ?_⟩
    cases q : m2.ev E S1 with
    | no => rw [q] at g; exact g.elim
    | ex k a S2 =>
      rw [q] at g
      intro cls d H2 t2 s2 e
      obtain ⟨e1, e2, dx, v, e3, e4, e5, e6⟩ := e
      exact g ρ σ cls d H2 (t.trans t2).far s2.drop ⟨e1, e2, dx, v, e3, e4, fun z => e5 (av_and.mpr (.inl z)), e6.less fun a z => av_and.mpr (.inl z)⟩
    | ok w S2 =>
      rw [q] at g
      intro wv H2 t2 o2
      cases w with
      | d y =>
        refine ⟨_, _, rfl, ?_⟩
        by_cases hl : i < E.length
        · have g : GotS G W M ρ S H D (if i < E.length then .ok (.nx, (E.set i (some (.ref S2.length))).set j (some (.d y))) (S2 ++ [c]) else .no) := g
          rw [if_pos hl] at g
          obtain ⟨s2, vr⟩ := o2
          have np1 : ¬ Live ρ S1 p := fun ⟨l, e, _⟩ => no l e
          have r2 : CellR G H2 (Av (And1 M p) ρ S2) p c := r.step t2 np1
          have np2 : ¬ Av M ρ S2 p := fun z => np (t2.av _ z)
          obtain ⟨s3, far, la, av3⟩ := own_in (t.trans t2) hp np2 no lv s2 r2
          refine g _ _ H2 far ?_ s3
          have hE2 : EnvR G H2 (Av M (ρ ++ [p]) (S2 ++ [c])) ρ σ E := hE.mono (t.trans t2).keep' av3
          have hE3 : EnvR G H2 (Av M (ρ ++ [p]) (S2 ++ [c])) (ρ ++ [p]) σ E := by
            refine ⟨hE2.len, fun j y e => ?_⟩
            obtain ⟨u, k1, k2⟩ := hE2.val j y e
            refine ⟨u, k1, ?_⟩
            cases k2 with
            | d k2 => exact .d k2
            | err h1 h2 h3 h4 h5 hH nd k2 => exact .err h1 h2 h3 h4 h5 hH nd k2
            | ref k2 => exact .ref (far.pre _ _ k2)
          have dr : DR G H2 (Av M (ρ ++ [p]) (S2 ++ [c])) wv y := by
            cases vr with
            | d vr =>
              refine vr.less fun a z => ?_
              rcases z with ⟨l, z1, c', z2, z3⟩ | z
              · by_cases hl : l < ρ.length
                · rw [List.getElem?_append_left hl] at z1
                  rw [List.getElem?_append_left (by rw [← s2.len]; exact hl)] at z2
                  exact .inl ⟨l, z1, c', z2, z3⟩
                · refine .inr (.inr ?_)
                  have hlt := (List.getElem?_eq_some_iff.mp z1).1
                  rw [List.getElem?_append_right (by omega)] at z1
                  have e0 : l - ρ.length = 0 := by
                    simp at hlt
                    omega
                  rw [e0] at z1
                  exact (by simpa using z1.symm)
              · exact .inr (.inl z)
          exact (hE3.set (.ref la)).set (.d dr)
        · have g : GotS G W M ρ S H D (if i < E.length then .ok (.nx, (E.set i (some (.ref S2.length))).set j (some (.d y))) (S2 ++ [c]) else .no) := g
          rw [if_neg hl] at g; exact g.elim
      | _ => exact g.elim
  | _ =>
    cases q : m2.ev E S1 with
    | no => rw [q] at g; exact g.elim
    | ok w S2 => rw [q] at g; exact g.elim
    | ex k a S2 =>
      rw [q] at g
      exact ⟨M, ρ, E, S1, hE.step t, o.sim, by rw [q]; exact fun cls d H2 t2 s2 e => g ρ σ cls d H2 (t.trans t2).far s2 e⟩

/-! ### x += e -/
theorem imp_aug {i : Nat} {op : Operator} {m : Sm} (f : Int → Int → Int) (hf : ∀ a b, augI op a b = some (f a b)) (D : Ends) (σ : L2.St) (H : Hp) : tS G W (augM op i m.ev) D σ H → tAug i (tI G W m.ev) (ipI f) D σ H := by
  intro ⟨M, ρ, E, S, hE, hS, g⟩
  unfold augM at g
  split at g
  · rename_i a ea
    have e1 : E[i]? = some (some (.d (.int a))) := by
      unfold getV at ea
      cases y : E[i]? with
      | none => rw [y] at ea; cases ea
      | some o => rw [y] at ea; cases o with
        | none => cases ea
        | some w => cases ea; rfl
    obtain ⟨v, h1, h2⟩ := hE.val i _ e1
    cases h2 with
    | d h2 =>
      cases h2
      refine ⟨_, h1, M, ρ, E, S, hE, hS, g.ex.imp fun w S1 g wv H1 t o => ?_⟩
      obtain ⟨E', e2, g⟩ := GotS.of g
      obtain ⟨y, e3, rfl⟩ := Option.map_eq_some_iff.mp e2
      unfold augV at e3
      split at e3
      · rename_i b
        rw [hf] at e3
        cases e3
        have dr := o.d
        cases dr
        exact ⟨_, _, rfl, rfl, g ρ _ H1 t.far ((hE.step t).set (.d (.int _))) o.sim⟩
      · cases e3
  · exact g.elim
theorem s_aug {i : Nat} {op : Operator} {m : Sm} {x : Str} {e : Expr} {px pos : Pos} (hop : op = .Add ∨ op = .Sub) (hN : X.N.Nodup) (hi : X.N[i]? = some x) (hx : Loc X.env.scope x) (hf : X.fn x = true ∨ X.env.scope.names.lookup x = some .local) (he : PE X e (tI G W m.ev)) :
    PS X (.AugAssign (.Name x px) op e pos) (tS G W (augM op i m.ev)) := by
  rcases hop with rfl | rfl
  · exact PS_imp (ps_aug hN hi hx he ip_add hf) (imp_aug _ fun _ _ => rfl)
  · exact PS_imp (ps_aug hN hi hx he ip_sub hf) (imp_aug _ fun _ _ => rfl)
/-! ### o[i], p[j] = e -/
theorem set1 {mo mi : Sm} {M : Addr → Prop} {σ : L2.St} {ρ : List Addr} {S : Store} {H : Hp} {E : Env} {D : Ends} {v : V} {dx : Mi.D} {f : Store → R (Fl × Env)} {Q : L2.St → Hp → Prop} (hE : EnvR G H (Av M ρ S) ρ σ E) (hS : Sim G M H ρ S) (dr : DR G H (Av M ρ S) v dx)
    (g : GotS G W M ρ S H D ((mo.ev E S).bind fun l S2 => (mi.ev E S2).bind fun k S3 => (R.of (k.dat.bind fun y => setAt l y dx S3) S3).bind fun S4 _ => f S4))
    (q : ∀ S4 H4, Step ρ S H S4 H4 → Sim G M H4 ρ S4 → GotS G W M ρ S4 H4 D (f S4) → Q σ H4) : gSub (tI G W mo.ev) (tI G W mi.ev) tSetD v σ H Q := by
  refine ⟨M, ρ, E, S, hE, hS, g.ex.imp fun l S2 g ov H2 t2 o2 => ?_⟩
  have g := g.later t2.far hS o2.sim
  refine ⟨M, ρ, E, S2, hE.step t2, o2.sim, g.ex.imp fun k S3 g iv H3 t3 o3 => ?_⟩
  have g := g.later t3.far o2.sim o3.sim
  obtain ⟨S4, e4, g⟩ := GotS.of g
  obtain ⟨dk, e2, e4⟩ := Option.bind_eq_some_iff.mp e4
  have s3 := o3.sim
  have dr := (dr.step t2).step t3
  have kr := o3.ar.dat e2
  cases l with
  | ref j =>
    obtain ⟨a, rfl, ha⟩ := (o2.ar.step t3).refR
    unfold setAt at e4
    cases ec : S3[j]? with
    | none => simp only [ec] at e4; cases e4
    | some c =>
      simp only [ec] at e4
      have r := s3.cell j a c ha ec
      cases c with
      | lst xs =>
        cases dk with
        | int i =>
          obtain ⟨m, e5, rfl⟩ := Option.map_eq_some_iff.mp e4
          obtain ⟨vs, h1, h2⟩ := r
          have la : Live ρ S3 a := ⟨j, ha, _, ec, trivial⟩
          obtain ⟨s4, t4⟩ := s3.write (o := .lst (vs.set m v)) ha ec trivial trivial (c' := .lst (xs.set m dx)) ⟨_, upd_same, DRs.mono (upd_keep la) (fun _ z => .inl z) _ (h2.set dr m)⟩
          refine .inl ⟨a, vs, i, m, rfl, (TR.dr kr).int, h1, by rw [h2.len]; exact e5, ?_⟩
          exact q _ _ (t2.trans (t3.trans t4)) s4 (g.later t4.far s3 s4)
        | _ => cases e4
      | dct ks vs =>
        obtain ⟨q', e5, e6⟩ := Option.bind_eq_some_iff.mp e4
        obtain ⟨z, rfl⟩ := of_if e6
        obtain ⟨us, h1, l1, h2⟩ := r
        have la : Live ρ S3 a := ⟨j, ha, _, ec, trivial⟩
        obtain ⟨us', p1, p2, p3, p4⟩ := put_rel (k := q') l1 h2 dr
        obtain ⟨s4, t4⟩ := s3.write (o := .dK (putK (ks.zip us) q' v)) ha ec trivial trivial (c' := .dct (putD q' dx ks vs).1 (putD q' dx ks vs).2) ⟨us', by rw [p1]; exact upd_same, p2, DRs.mono (upd_keep la) (fun _ z => .inl z) _ p3⟩
        refine .inr ⟨a, _, rfl, ?_, q _ _ (t2.trans (t3.trans t4)) s4 (g.later t4.far s3 s4)⟩
        rw [asKey_some (.dr kr) e5]
        exact DPut.k h1 (by rw [List.length_zip]; omega)
      | gone => cases e4
  | _ => cases e4
/-- the targets' readings -/
def gX (G : Gb) (W : WX) : List (Sm × Sm) → TGs
  | [] => fun vs σ H Q => vs = [] ∧ Q σ H
  | (mo, mi) :: r => gCons (gSub (tI G W mo.ev) (tI G W mi.ev) tSetD) (gX G W r)
theorem imp_gX {M : Addr → Prop} {σ : L2.St} {ρ : List Addr} {E : Env} {D : Ends} : ∀ (ms : List (Sm × Sm)) {S : Store} {H : Hp} {vs : List V} {xs : List Mi.D}, EnvR G H (Av M ρ S) ρ σ E → Sim G M H ρ S → DRs G H (Av M ρ S) vs xs → GotS G W M ρ S H D (setAll ms xs E S) → gX G W ms vs σ H D.nx
  | [], S, H, vs, xs, hE, hS, r, g => by
    cases r with
    | nil => exact ⟨rfl, g ρ σ H Far.refl hE hS⟩
    | cons _ _ => exact g.elim
  | (mo, mi) :: ms, S, H, vs, xs, hE, hS, r, g => by
    cases r with
    | nil => exact g.elim
    | cons r1 r2 => exact ⟨_, _, rfl, set1 hE hS r1 g fun S4 H4 t4 s4 g4 => imp_gX ms (hE.step t4) s4 (r2.step t4) g4⟩
theorem s_asgX {n : Nat} {m : Sm} {ms : List (Sm × Sm)} {es : List Expr} {e : Expr} {kk : Nat} {pt pos : Pos} (hG : G.K = X.K) (hc : X.calm = true) (h : PE X e (tI G W m.ev)) (hg : PGs X es (gX G W ms)) (hl : es.length = n) (hn : (assignEach es X.env).length = es.length) (hst : (assignEach es X.env).findIdx? (·.1) = none)
    (hs : swapsWithSole [.Tuple es kk pt] e pos.line X.env = pure false) (hw : swappedStores [.Tuple es kk pt] e X.env = pure none) :
    PS X (.Assign [.Tuple es kk pt] e pos) (tS G W fun E S => (m.ev E S).bind fun v S1 => (R.of (v.dat.bind (tupD n)) S1).bind fun xs S1 => setAll ms xs E S1) := by
  refine PS_imp (ps_asg h (pg_tup hc hg hn hst) hs hw rfl) fun D σ H ⟨M, ρ, E, S, hE, hS, g⟩ => ⟨M, ρ, E, S, hE, hS, (GotS.ex g).imp fun v S1 g vv H1 t o => ?_⟩
  obtain ⟨xs, ex, g⟩ := GotS.of g
  obtain ⟨d, ed, ex⟩ := Option.bind_eq_some_iff.mp ex
  cases d with
  | tup ys =>
    have ex : (if ys.length = n then some ys else none) = some xs := ex
    obtain ⟨z, rfl⟩ := of_if ex
    obtain ⟨a, vs, rfl, h1, r, _⟩ := (o.ar.dat ed).tupR
    have s1 := o.sim
    exact ⟨a, vs, rfl, hG ▸ h1, by rw [r.len, hl]; exact z, imp_gX ms (hE.step t) s1 r (g.later t.far hS s1)⟩
  | _ => cases ex
end
end Mi

set_option maxHeartbeats 4000000
/-! does an expression of the text look like one of the small language -/
namespace Mi
open PySem PySem.Spec PyProof.Rows L2
/-- the text's names -/
structure Tb where
  fns : List Str
  gls : List Str
  cls : List Str
  blt : List Str
  /-- within a def that is handed the caught exception -/
  hot : Bool := false
  /-- the defs that are handed one -/
  hotf : List Nat := []
  /-- classes that are asked for, and those under them -/
  subs : List (Nat × List Nat) := []
  /-- each class's one field -/
  flds : List Str := []
  /-- classes that are raised -/
  leaf : List Nat := []
def glo (sc : Scope) (x : Str) : Bool := decide (sc.names.lookup x = some .globalImplicit) && !(x == ("__debug__" : Str))
def vis (sc : Scope) (x : Str) : Bool := (decide (sc.names.lookup x = some .local) || decide (sc.names.lookup x = some .cell) || decide (sc.names.lookup x = some .free)) && (!(x == ("__debug__" : Str)) && !(x == ("__classdict__" : Str)))
def isPair : Ex → Bool
  | .zip _ => true
  | .enum _ => true
  | _ => false
def notSet : Expr → Bool
  | .Set _ _ _ => false
  | _ => true
def notStar : Expr → Bool
  | .Starred _ _ => false
  | _ => true
def notSlice : Expr → Bool
  | .Slice _ _ _ _ => false
  | _ => true
def notCall : Expr → Bool
  | .Call _ _ _ _ => false
  | _ => true
def ownN (N : List Str) (vs : List Nat) : List (Str × Nat) := vs.map fun i => (N.getD i default, i)
theorem ownN_2 (N : List Str) (vs : List Nat) : (ownN N vs).map (·.2) = vs := by
  unfold ownN
  rw [List.map_map]
  exact List.map_id' vs
/-- a comprehension's clause, but for its parts -/
def chkC (N : List Str) (sc scope : Scope) (vs : List Nat) (tg : Tg) (it : Ex) (tgt iter : Expr) : Bool :=
  blkC N sc scope (ownN N vs) && (tg.slots.all fun i => vs.contains i) && chkT N scope tg tgt && notSet iter && (!isPair it || tupT tgt)
def chkIs (T : Tb) (N : List Str) (sc : Scope) (i c : Nat) (subs : List Nat) : Expr → Bool
  | .Call (.Name x _) [.Name n _, .Name y _] [] _ => x == "isinstance" && T.blt.contains x && glo sc x && N[i]? == some n && vis sc n && T.cls[c]? == some y && glo sc y && (T.subs.lookup c == some subs)
  | _ => false
def chkIsV (T : Tb) (N : List Str) (sc : Scope) (i : Nat) : Expr → Bool
  | .Call (.Name x _) [.Name n _, .Name y _] [] _ => x == "isinstance" && T.blt.contains x && glo sc x && N[i]? == some n && vis sc n && y == "ValueError" && T.blt.contains y && glo sc y
  | _ => false
def chkAt (T : Tb) (N : List Str) (sc : Scope) (i : Nat) (f : Str) (cs : List Nat) : Expr → Bool
  | .Attribute (.Name n _) f' _ => f' == f && N[i]? == some n && vis sc n && cs.all (fun k => T.flds[k]? == some f)
  | _ => false
mutual
def chkE (T : Tb) (N : List Str) : Scope → Ex → Expr → Bool
  | sc, .kN, e => match e with
    | .Constant c _ _ => decide (c = .none)
    | _ => false
  | sc, .kB b, e => match e with
    | .Constant c _ _ => decide (c = .bool b)
    | _ => false
  | sc, .kI i, e => match e with
    | .Constant c _ _ => decide (c = .int i)
    | _ => false
  | sc, .kS s, e => match e with
    | .Constant c _ _ => decide (c = .str s)
    | _ => false
  | sc, .var i, e => match e with
    | .Name x _ => N[i]? == some x && vis sc x
    | _ => false
  | sc, .glb g, e => match e with
    | .Name x _ => T.gls[g]? == some x && glo sc x
    | _ => false
  | sc, .fnv f, e => match e with
    | .Name x _ => T.fns[f]? == some x && glo sc x
    | _ => false
  | sc, .typ n, e => match e with
    | .Name x _ => x == Str.ofString n && asked.contains n && T.blt.contains x && glo sc x
    | _ => false
  | sc, .clsv c, e => match e with
    | .Name x _ => T.cls[c]? == some x && glo sc x
    | _ => false
  | sc, .neg a, e => match e with
    | .UnaryOp op a' _ => decide (op = .USub) && chkE T N sc a a'
    | _ => false
  | sc, .bin op a b, e => match e with
    | .BinOp a' op' b' _ => decide (op = op') && chkE T N sc a a' && chkE T N sc b b'
    | _ => false
  | sc, .cmp op a b, e => match e with
    | .Compare a' [op'] [b'] _ => decide (op = op') && !behindInMarks op b' && chkE T N sc a a' && chkE T N sc b b'
    | _ => false
  | sc, .chn o1 o2 a b c, e => match e with
    | .Compare a' [p1, p2] [b', c'] _ => decide (o1 = p1) && decide (o2 = p2) && !lastMarks [o1, o2] [b', c'] && chkE T N sc a a' && chkE T N sc b b' && chkE T N sc c c'
    | _ => false
  | sc, .andE es, e => match e with
    | .BoolOp op es' _ => decide (op = .And) && !es'.isEmpty && chkEs T N sc es es'
    | _ => false
  | sc, .orE es, e => match e with
    | .BoolOp op es' _ => decide (op = .Or) && !es'.isEmpty && chkEs T N sc es es'
    | _ => false
  | sc, .notE a, e => match e with
    | .UnaryOp op a' _ => decide (op = .Not) && chkE T N sc a a'
    | _ => false
  | sc, .ife t a b, e => match e with
    | .IfExp t' a' b' _ => chkE T N sc t t' && chkE T N sc a a' && chkE T N sc b b'
    | _ => false
  | sc, .tup es, e => match e with
    | .Tuple es' _ _ => chkEs T N sc es es'
    | _ => false
  | sc, .lst es, e => match e with
    | .List es' _ => chkEs T N sc es es'
    | _ => false
  | sc, .ix a i, e => match e with
    | .Subscript a' i' _ => notSlice i' && chkE T N sc a a' && chkE T N sc i i'
    | _ => false
  | sc, .slc a lo hi, e => match e with
    | .Subscript a' (.Slice lo' hi' none _) _ => chkE T N sc a a' && chkO T N sc lo lo' && chkO T N sc hi hi'
    | _ => false
  | sc, .call f es, e => match e with
    | .Call (.Name x _) es' [] _ => T.fns[f]? == some x && glo sc x && chkEs T N sc es es' && !T.hot
    | _ => false
  | sc, .bi b es, e => match e with
    | .Call (.Name x _) es' [] _ => x == Str.ofString b.id && T.blt.contains x && glo sc x && !es'.isEmpty && chkEs T N sc es es' && (b.cool || !T.hot)
    | _ => false
  | sc, .rng es, e => match e with
    | .Call (.Name x _) es' [] _ => x == "range" && T.blt.contains x && glo sc x && (decide (es'.length = 1) || decide (es'.length = 2)) && chkEs T N sc es es'
    | _ => false
  | sc, .zip es, e => match e with
    | .Call (.Name x _) es' [] _ => x == "zip" && T.blt.contains x && glo sc x && decide (es'.length = 2) && chkEs T N sc es es'
    | _ => false
  | sc, .enum es, e => match e with
    | .Call (.Name x _) es' [] _ => x == "enumerate" && T.blt.contains x && glo sc x && decide (es'.length = 1) && chkEs T N sc es es'
    | _ => false
  | sc, .mt m a es, e => match e with
    | .Call (.Attribute a' n apos) es' [] pos => decide (m = .append) && n == "append" && notCall a' && (apos.endLine == pos.line) && decide (es'.length = 1) && chkE T N sc a a' && chkEs T N sc es es'
    | _ => false
  | sc, .lc e tg it ifs vs, ex => match ex with
    | .ListComp e' [⟨tgt, iter, ifs', as⟩] scope _ => decide (as = 0) && !T.hot && chkC N sc scope vs tg it tgt iter && decide (ifs'.length ≤ 1) && chkE T N sc it iter && chkEs T N (relS scope sc) ifs ifs' && chkE T N (relS scope sc) e e'
    | _ => false
  | sc, .dc k v tg it ifs vs, ex => match ex with
    | .DictComp k' v' [⟨tgt, iter, ifs', as⟩] scope _ => decide (as = 0) && !T.hot && chkC N sc scope vs tg it tgt iter && decide (ifs'.length ≤ 1) && chkE T N sc it iter && chkEs T N (relS scope sc) ifs ifs' && chkE T N (relS scope sc) k k' && chkE T N (relS scope sc) v v'
    | _ => false
  | sc, .isE i c subs, e => chkIs T N sc i c subs e
  | sc, .isV i, e => chkIsV T N sc i e
  | sc, .attr i f cs, e => chkAt T N sc i f cs e
  | sc, .dyn i es, e => match e with
    | .Call (.Name x _) es' [] _ => N[i]? == some x && vis sc x && chkEs T N sc es es' && !T.hot
    | _ => false
  | sc, .pm m a es, e => match e with
    | .Call (.Attribute a' n apos) es' [] pos => n == m.nm && notCall a' && (apos.endLine == pos.line) && decide (es'.length = 1) && chkE T N sc a a' && chkEs T N sc es es'
    | _ => false
def chkEs (T : Tb) (N : List Str) : Scope → List Ex → List Expr → Bool
  | _, [], es => es.isEmpty
  | sc, m :: ms, es => match es with
    | e :: r => notStar e && chkE T N sc m e && chkEs T N sc ms r
    | [] => false
def chkO (T : Tb) (N : List Str) : Scope → Option Ex → Option Expr → Bool
  | _, none, e => e.isNone
  | sc, some m, e => match e with
    | some e => chkE T N sc m e
    | none => false
end

/-! ### the context -/
/-- what the written part says of the classes -/
structure ClsT (G : Gb) (P : Program) (T : Tb) : Prop where
  len : T.cls.length = G.ncl
  fl : ∀ k f, T.flds[k]? = some f → G.fld k = f
  kit : ∀ c subs k, T.subs.lookup c = some subs → k < G.ncl → PySem.W.kitOne G.K (.ref (G.cad k)) (.ref (G.cad c)) = some (subs.contains k)
  exm : ∀ c subs k, T.subs.lookup c = some subs → k < G.ncl → PySem.W.exmOne G.K (.ref (G.cad k)) (.ref (G.cad c)) = some (subs.contains k)
  kiv : ∀ k, k < G.ncl → PySem.W.kitOne G.K (.ref (G.cad k)) (.type "ValueError") = some true
  cx : ∀ k, k < G.ncl → ClsA G.K (G.cad k) (G.fld k)
  sup : ∀ k, T.leaf.contains k = true → k < G.ncl ∧ PySem.SupX.Nf (G.fld k) ∧ ∃ fI, PySem.SupX.SupTxt G.K P (G.fld k) (G.cad k) fI
structure Cok (G : Gb) (W : WX) (X : Cx) (T : Tb) (Fs : Fns) (Gs : List D) (sc : Scope) (k : Nat) : Prop where
  hK : G.K = X.K
  nd : X.N.Nodup
  hsc : X.env.scope = sc
  calm : T.hot = false → X.calm = true
  room : T.hot = false → Room k X.A
  rmh : L2H.RoomH k X.A
  grd : X.A.guards = some []
  tk : Takes X W
  fns : ∀ (f : Nat) (x : Str), T.fns[f]? = some x → X.mg x = some (.ref (G.adr f)) ∧ f < G.nfn
  cold : T.hot = false → ∀ f, f < G.nfn → PySem.W.keepIn X.K (.ref (G.adr f)) = true ∧ ∃ fd ps, FnG X.prog X.w X.K X.mg X.base k (G.adr f) fd ps (spM G (Fs f)) ∧ Binds X.K fd ps []
  hots : T.hot = false → ∀ f, T.hotf.contains f = true → PySem.W.keepIn X.K (.ref (G.adr f)) = true ∧ ∃ fd ps, FnX X.prog X.w X.K X.mg X.base k (G.adr f) fd ps (fun p => spM { G with pin := some p } (Fs f)) ∧ Binds X.K fd ps []
  cpin : T.hot = false → G.pin = none
  pn : ∀ p, G.pin = some p → p ∈ X.pn
  gls : ∀ (g : Nat) (x : Str), T.gls[g]? = some x → ∃ d v u, Gs[g]? = some d ∧ (∀ H N, DR G H N v d) ∧ X.mg x = some u ∧ RelV v u
  cls : ∀ (c : Nat) (x : Str), T.cls[c]? = some x → X.mg x = some (.ref (G.cad c))
  blt : ∀ x, T.blt.contains x = true → X.mg x = none
  ct : ClsT G X.prog T
section
variable {G : Gb} {W : WX} {X : Cx} {T : Tb} {Fs : Fns} {Gs : List D} {sc : Scope} {k : Nat}
theorem Cok.un (c : Cok G W X T Fs Gs sc k) : X.A.units + 100 < cLine := by have := c.rmh.un; omega
theorem Cok.gl (c : Cok G W X T Fs Gs sc k) {x : Str} (h : glo sc x = true) : Gl X x ∧ (x == ("__debug__" : Str)) = false := by
  have h := Bool.and_eq_true_iff.mp h
  refine ⟨?_, by simpa using h.2⟩
  show X.env.scope.names.lookup x = _
  rw [c.hsc]
  exact of_decide_eq_true h.1
theorem Cok.vi (c : Cok G W X T Fs Gs sc k) {x : Str} (h : vis sc x = true) : Vis X.env.scope x ∧ (x == ("__debug__" : Str)) = false ∧ (x == ("__classdict__" : Str)) = false := by
  unfold vis at h
  simp only [Bool.and_eq_true, Bool.or_eq_true, decide_eq_true_eq, Bool.not_eq_true'] at h
  refine ⟨?_, h.2.1, h.2.2⟩
  unfold Vis
  rw [c.hsc]
  rcases h.1 with (h | h) | h
  · exact .inl h
  · exact .inr (.inl h)
  · exact .inr (.inr h)
theorem Cok.blk (c : Cok G W X T Fs Gs sc k) (hh : T.hot = false) {s : Shared} {H : Hp} {scope : Scope} {C : Addr} {cl : List (Str × Addr)} {fp : List Addr} : Cok G WN (X.blk s H scope (compEnvC scope cl C X.env) fp) T Fs Gs (relS scope sc) k :=
  ⟨c.hK, c.nd, by show relS scope X.env.scope = _; rw [c.hsc], c.calm, c.room, c.rmh, c.grd, fun u s' ⟨_, _, _, _, _, _, _, _, _, _, _, _, _, _, _, _, w⟩ => w.elim, c.fns, c.cold, c.hots, c.cpin, fun p e => absurd (e.symm.trans (c.cpin hh)) (by simp), c.gls, c.cls, c.blt, c.ct⟩
theorem blk_stores {s : Shared} {H : Hp} {scope : Scope} {C : Addr} {cl : List (Str × Addr)} {fp : List Addr} : Stores (X.blk s H scope (compEnvC scope cl C X.env) fp) scope := fun x h => by
  have h := Bool.or_eq_true_iff.mp h
  rcases h with h | h
  · have h := beq_iff_eq.mp h
    have q := lookup_relS_keep (sc := X.env.scope) (by decide) h
    exact ⟨.inl q, .inr q⟩
  · have h' := beq_iff_eq.mp h
    exact ⟨.inr (lookup_relS_keep (sc := X.env.scope) (by decide) h'), .inl h⟩

/-! ### lists of expressions -/
inductive Soks (G : Gb) (W : WX) (X : Cx) : List Expr → List Sm → Prop
  | nil : Soks G W X [] []
  | cons {e : Expr} {m : Sm} {p : Bool} {es : List Expr} {ms : List Sm} (h : Sok G W X e m p) (hs : notStar e = true) (r : Soks G W X es ms) : Soks G W X (e :: es) (m :: ms)
theorem star_ok {e : Expr} (h : notStar e = true) (es : List Expr) (env : PySem.Env) : starEach (e :: es) env = (false, eval e env) :: starEach es env := by
  cases e <;> first | rfl | cases h
theorem Soks.pa {es : List Expr} {ms : List Sm} (h : Soks G W X es ms) : PA X es (tAs G W (evAll ms)) := by
  induction h with
  | nil => exact as_nil
  | cons h hs r ih => exact as_cons h.ev ih (star_ok hs _ _)
theorem Soks.plain {es : List Expr} {ms : List Sm} (h : Soks G W X es ms) (pos : Pos) (env : PySem.Env) : (backTo pos (starEach es env)).any (·.1) = false := by
  induction h with
  | nil => rfl
  | cons h hs r ih =>
    rw [star_ok hs]
    unfold backTo at ih ⊢
    rw [List.map_cons, List.any_cons, ih]
    rfl
theorem Soks.head {e : Expr} {es : List Expr} {ms : List Sm} (h : Soks G W X (e :: es) ms) (pos : Pos) (env : PySem.Env) : starEach (e :: es) env = (false, eval e env) :: starEach es env ∧ (backTo pos (starEach es env)).any (·.1) = false := by
  cases h with
  | cons h hs r => exact ⟨star_ok hs _ _, r.plain _ _⟩
theorem Soks.and {es : List Expr} {ms : List Sm} {pos : Pos} (h : Soks G W X es ms) (ne : es ≠ []) : PE X (.BoolOp .And es pos) (tI G W (evAnd ms)) ∧ PW X (.BoolOp .And es pos) (tT G W (tsAnd ms)) := by
  induction h with
  | nil => exact absurd rfl ne
  | cons h hs r ih =>
    cases r with
    | nil => exact ⟨ev_and1 h.ev, ts_and1 h.ts⟩
    | cons h2 hs2 r2 => obtain ⟨i1, i2⟩ := ih (by simp); exact ⟨ev_and h.ev i1, ts_and h.ts i2⟩
theorem Soks.or {es : List Expr} {ms : List Sm} {pos : Pos} (h : Soks G W X es ms) (ne : es ≠ []) : PE X (.BoolOp .Or es pos) (tI G W (evOr ms)) ∧ PW X (.BoolOp .Or es pos) (tT G W (tsOr ms)) := by
  induction h with
  | nil => exact absurd rfl ne
  | cons h hs r ih =>
    cases r with
    | nil => exact ⟨ev_or1 h.ev, ts_or1 h.ts⟩
    | cons h2 hs2 r2 => obtain ⟨i1, i2⟩ := ih (by simp); exact ⟨ev_or h.ev i1, ts_or h.ts i2⟩
theorem PTs_imp {es : List Expr} {t t' : TT} (h : PTs X es t) (f : ∀ σ H Q, t' σ H Q → t σ H Q) : PTs X es t' := ⟨fun p s σ H Q I q => h.run p s σ H Q I (f σ H Q q)⟩
theorem Soks.tests {es : List Expr} {ms : List Sm} (h : Soks G W X es ms) (hl : es.length ≤ 1) : PTs X es (tT G W (tsAll ms)) := by
  cases h with
  | nil => exact PTs_imp pts_nil fun σ H Q ⟨M, ρ, E, S, hE, hS, g⟩ => g H Step.refl hS
  | cons h hs r =>
    cases r with
    | nil => exact PTs_imp (pts_one h.ts) fun _ _ _ h => h
    | cons _ _ _ => simp at hl
end

/-! ### comprehensions -/
structure BlkH (G : Gb) (W : WX) (X : Cx) (tg : Tg) (vs : List Nat) (mi : Sm) (mfs : List Sm) (tgt iter : Expr) (ifs : List Expr) (scope : Scope) : Prop where
  hi : PI X tgt iter (tIt G W mi.it)
  ok : BlkOk X.N X.env.scope scope (ownN X.N vs)
  hsl : ∀ i ∈ tg.slots, i ∈ vs
  hg : ∀ (s : Shared) (H : Hp) (C : Addr) (cl : List (Str × Addr)) (fp : List Addr), PG (X.blk s H scope (compEnvC scope cl C X.env) fp) tgt (tTg G tg)
  ht : ∀ (s : Shared) (H : Hp) (C : Addr) (cl : List (Str × Addr)) (fp : List Addr), PTs (X.blk s H scope (compEnvC scope cl C X.env) fp) ifs (tT G WN (tsAll mfs))
  hs : ∀ x, foldedSetIterable iter X.env x = pure x
theorem fold_ok {e : Expr} (h : notSet e = true) (env : PySem.Env) (x : Value) : foldedSetIterable e env x = pure x := by
  cases e <;> first | rfl | cases h
section
variable {G : Gb} {W : WX} {X : Cx} {T : Tb} {Fs : Fns} {Gs : List D} {sc : Scope} {k : Nat}
theorem blkH {tg : Tg} {vs : List Nat} {it : Ex} {mfs : List Sm} {tgt iter : Expr} {ifs : List Expr} {scope : Scope} (c : Cok G W X T Fs Gs sc k) (hh : T.hot = false) (h : chkC X.N sc scope vs tg it tgt iter = true) (hl : ifs.length ≤ 1)
    (hi : Sok G W X iter (sem Fs Gs it) (isPair it)) (hf : ∀ (X' : Cx), X'.N = X.N → Cok G WN X' T Fs Gs (relS scope sc) k → Soks G WN X' ifs mfs) : BlkH G W X tg vs (sem Fs Gs it) mfs tgt iter ifs scope := by
  unfold chkC at h
  simp only [Bool.and_eq_true, Bool.or_eq_true, Bool.not_eq_true', List.all_eq_true, List.contains_iff_mem] at h
  obtain ⟨⟨⟨⟨h1, h2⟩, h3⟩, h4⟩, h5⟩ := h
  refine ⟨hi.it tgt fun q => ?_, ?_, h2, fun s H C cl fp => pg_tg (X := (X.blk s H scope (compEnvC scope cl C X.env) fp)) c.hK (c.calm hh) c.nd blk_stores tg tgt h3, fun s H C cl fp => (hf (X.blk s H scope (compEnvC scope cl C X.env) fp) rfl (c.blk hh)).tests hl, fold_ok h4 _⟩
  · rcases h5 with e | e
    · rw [q] at e; cases e
    · exact e
  · rw [c.hsc]
    exact blkOk_by h1
theorem BlkH.lc {tg : Tg} {vs : List Nat} {mi me : Sm} {mfs : List Sm} {elt tgt iter : Expr} {ifs : List Expr} {scope : Scope} {pos : Pos} (c : Cok G W X T Fs Gs sc k) (hh : T.hot = false) (b : BlkH G W X tg vs mi mfs tgt iter ifs scope) {p : Bool}
    (he : ∀ (X' : Cx), X'.N = X.N → Cok G WN X' T Fs Gs (relS scope sc) k → Sok G WN X' elt me p) : PE X (.ListComp elt [⟨tgt, iter, ifs, 0⟩] scope pos) (tI G W (lcM mi me mfs tg vs)) :=
  ev_lc (c.calm hh) c.nd b.hi b.ok (ownN_2 _ _) b.hsl b.hg b.ht (fun s H C cl fp => (he (X.blk s H scope (compEnvC scope cl C X.env) fp) rfl (c.blk hh)).ev) b.hs
theorem BlkH.dc {tg : Tg} {vs : List Nat} {mi mk mv : Sm} {mfs : List Sm} {kx vx tgt iter : Expr} {ifs : List Expr} {scope : Scope} {pos : Pos} (c : Cok G W X T Fs Gs sc k) (hh : T.hot = false) (b : BlkH G W X tg vs mi mfs tgt iter ifs scope) {p q : Bool}
    (hk : ∀ (X' : Cx), X'.N = X.N → Cok G WN X' T Fs Gs (relS scope sc) k → Sok G WN X' kx mk p) (hv : ∀ (X' : Cx), X'.N = X.N → Cok G WN X' T Fs Gs (relS scope sc) k → Sok G WN X' vx mv q) :
    PE X (.DictComp kx vx [⟨tgt, iter, ifs, 0⟩] scope pos) (tI G W (dcM mi mk mv mfs tg vs)) :=
  ev_dc (c.calm hh) c.nd b.hi b.ok (ownN_2 _ _) b.hsl b.hg b.ht (fun s H C cl fp => (hk (X.blk s H scope (compEnvC scope cl C X.env) fp) rfl (c.blk hh)).ev) (fun s H C cl fp => (hv (X.blk s H scope (compEnvC scope cl C X.env) fp) rfl (c.blk hh)).ev) b.hs
end
end Mi

set_option maxHeartbeats 4000000
/-! an expression that looks like one of the small language does what that says -/
namespace Mi
open PySem PySem.Spec PyProof.Rows L2
theorem and3 {a b c : Bool} (h : (a && b && c) = true) : a = true ∧ b = true ∧ c = true := by
  simp only [Bool.and_eq_true] at h; exact ⟨h.1.1, h.1.2, h.2⟩
theorem and2 {a b : Bool} (h : (a && b) = true) : a = true ∧ b = true := by
  simpa only [Bool.and_eq_true] using h
theorem boot_asked {n : String} (h : asked.contains n = true) : bootBuiltins (Str.ofString n) = some (.type n) ∧ (Str.ofString n : Str) ≠ "__name__" := by
  have h := List.contains_iff_mem.mp h
  unfold asked at h
  simp only [List.mem_cons, List.not_mem_nil, or_false] at h
  rcases h with e | e | e | e | e | e <;> subst e <;> exact ⟨by decide +kernel, by decide +kernel⟩
theorem notE {α : Type} {l : List α} (h : (!l.isEmpty) = true) : l ≠ [] := by
  cases l with
  | nil => cases h
  | cons _ _ => simp
section
variable {G : Gb} {W : WX} {X : Cx} {T : Tb} {Fs : Fns} {Gs : List D} {sc : Scope} {k : Nat}
theorem sok_no {e : Expr} {m : Sm} {p : Bool} (h : PE X e (tI G W m.ev)) (ht : PT X e (tT G W m.ts)) (hi : ∀ E S, m.it E S = .no) : Sok G W X e m p :=
  ⟨h, ht, fun tg _ => PI_imp PI_no fun σ H Q ⟨M, ρ, E, S, hE, hS, g⟩ => by rw [hi] at g; exact g.elim⟩
theorem ts_no {e : Expr} {f : Env → Store → R Bool} (h : ∀ E S, f E S = .no) : PT X e (tT G W f) := PT_imp PT_no fun σ H Q ⟨M, ρ, E, S, hE, hS, g⟩ => by rw [h] at g; exact g.elim
theorem sok_walk {e : Expr} {f : Env → Store → R (List D)} {p : Bool} (h : ∀ tg, (p = true → tupT tg = true) → PI X tg e (tIt G W f)) : Sok G W X e (.walk f) p :=
  ⟨PE_imp PE_no fun σ H Q ⟨M, ρ, E, S, hE, hS, g⟩ => g.elim, ts_no fun _ _ => rfl, h⟩
end
theorem Soks.len {G : Gb} {W : WX} {X : Cx} {es : List Expr} {ms : List Sm} (h : Soks G W X es ms) : ms.length = es.length := by
  induction h with
  | nil => rfl
  | cons h hs r ih => rw [List.length_cons, List.length_cons, ih]
theorem Soks.head2 {G : Gb} {W : WX} {X : Cx} {e e2 : Expr} {es : List Expr} {ms : List Sm} (h : Soks G W X (e :: e2 :: es) ms) (env : PySem.Env) : starEach (e2 :: es) env = (false, eval e2 env) :: starEach es env := by
  cases h with
  | cons h hs r => cases r with
    | cons h2 hs2 r2 => exact star_ok hs2 _ _
theorem Soks.tail {G : Gb} {W : WX} {X : Cx} {e : Expr} {es : List Expr} {m : Sm} {ms : List Sm} (h : Soks G W X (e :: es) (m :: ms)) : Soks G W X es ms := by
  cases h with
  | cons h hs r => exact r
section
variable {G : Gb} {W : WX} {X : Cx} {T : Tb} {Fs : Fns} {Gs : List D} {sc : Scope} {k i : Nat}
theorem sok_isE {c' : Nat} {subs : List Nat} {e : Expr} {p : Bool} (c : Cok G W X T Fs Gs sc k) (h : chkIs T X.N sc i c' subs e = true) : Sok G W X e (sem Fs Gs (.isE i c' subs)) p := by
  unfold chkIs at h
  split at h
  · rename_i x _ n _ y _ _
    obtain ⟨h, h8⟩ := and2 h
    obtain ⟨h, h7⟩ := and2 h
    obtain ⟨h, h6⟩ := and2 h
    obtain ⟨h, h5⟩ := and2 h
    obtain ⟨h, h4⟩ := and2 h
    obtain ⟨h1, h2, h3⟩ := and3 h
    have e := beq_iff_eq.mp h1
    subst e
    obtain ⟨q1, q2⟩ := c.gl h3
    obtain ⟨v1, v2, v3⟩ := c.vi h5
    obtain ⟨w1, w2⟩ := c.gl h7
    exact sok_v c.hK (ev_is (tv := .ref (G.cad c')) (t := .ref (G.cad c')) (fb := fun k => subs.contains k) c.hK c.pn c.ct.cx (beq_iff_eq.mp h4) v1 v2 v3 q1 (c.blt _ h2) (pe_glob w1 (c.cls c' y (beq_iff_eq.mp h6)) rfl w2) (fun u r => r) (fun k hk => c.ct.kit c' subs k (beq_iff_eq.mp h8) hk) rfl rfl) fun _ => rfl
  · cases h
theorem sok_isV {e : Expr} {p : Bool} (c : Cok G W X T Fs Gs sc k) (h : chkIsV T X.N sc i e = true) : Sok G W X e (sem Fs Gs (.isV i)) p := by
  unfold chkIsV at h
  split at h
  · rename_i x _ n _ y _ _
    obtain ⟨h, h8⟩ := and2 h
    obtain ⟨h, h7⟩ := and2 h
    obtain ⟨h, h6⟩ := and2 h
    obtain ⟨h, h5⟩ := and2 h
    obtain ⟨h, h4⟩ := and2 h
    obtain ⟨h1, h2, h3⟩ := and3 h
    have e := beq_iff_eq.mp h1
    subst e
    have e := beq_iff_eq.mp h6
    subst e
    obtain ⟨q1, q2⟩ := c.gl h3
    obtain ⟨v1, v2, v3⟩ := c.vi h5
    obtain ⟨w1, w2⟩ := c.gl h8
    exact sok_v c.hK (ev_is (tv := .type "ValueError") (t := .ty "ValueError") (fb := fun k => true) c.hK c.pn c.ct.cx (beq_iff_eq.mp h4) v1 v2 v3 q1 (c.blt _ h2) (pe_bltn w1 (c.blt _ h7) (by decide +kernel) rfl (by decide +kernel) w2) (fun u r => r) (fun k hk => c.ct.kiv k hk) rfl rfl) fun _ => rfl
  · cases h
theorem sok_attr {f : Str} {cs : List Nat} {e : Expr} {p : Bool} (c : Cok G W X T Fs Gs sc k) (h : chkAt T X.N sc i f cs e = true) : Sok G W X e (sem Fs Gs (.attr i f cs)) p := by
  unfold chkAt at h
  split at h
  · obtain ⟨h, h4⟩ := and2 h
    obtain ⟨h1, h2, h3⟩ := and3 h
    have e := beq_iff_eq.mp h1
    subst e
    obtain ⟨v1, v2, v3⟩ := c.vi h3
    exact sok_v c.hK (ev_attr c.hK c.pn c.ct.cx (beq_iff_eq.mp h2) v1 v2 v3 (fun k hk _ => c.ct.fl k _ (beq_iff_eq.mp (List.all_eq_true.mp h4 k (List.contains_iff_mem.mp hk)))) rfl) fun _ => rfl
  · cases h
end
mutual
theorem sokE {G : Gb} {T : Tb} {Fs : Fns} {Gs : List D} {k : Nat} : ∀ (m : Ex) {X : Cx} {W : WX} {sc : Scope} (e : Expr), Cok G W X T Fs Gs sc k → chkE T X.N sc m e = true → Sok G W X e (sem Fs Gs m) (isPair m)
  | .kN, X, W, sc, e, c, h => match e, h with
    | .Constant v _ _, h => by
      have e : v = .none := of_decide_eq_true h
      subst e
      exact sok_v c.hK (ev_k (fun _ _ => .non) pe_non) fun _ => rfl
  | .kB b, X, W, sc, e, c, h => match e, h with
    | .Constant v _ _, h => by
      have e : v = .bool b := of_decide_eq_true h
      subst e
      exact sok_v c.hK (ev_k (fun _ _ => .bl _) pe_bl) fun _ => rfl
  | .kI i, X, W, sc, e, c, h => match e, h with
    | .Constant v _ _, h => by
      have e : v = .int i := of_decide_eq_true h
      subst e
      exact sok_v c.hK (ev_k (fun _ _ => .int _) pe_int) fun _ => rfl
  | .kS s, X, W, sc, e, c, h => match e, h with
    | .Constant v _ _, h => by
      have e : v = .str s := of_decide_eq_true h
      subst e
      exact sok_v c.hK (ev_k (fun _ _ => .str _) pe_str) fun _ => rfl
  | .var i, X, W, sc, e, c, h => match e, h with
    | .Name x _, h => by
      obtain ⟨h1, h2⟩ := and2 h
      obtain ⟨q1, q2, q3⟩ := c.vi h2
      exact sok_v c.hK (ev_var (pe_var (beq_iff_eq.mp h1) q1 q2 q3)) fun _ => rfl
  | .glb g, X, W, sc, e, c, h => match e, h with
    | .Name x _, h => by
      obtain ⟨h1, h2⟩ := and2 h
      obtain ⟨q1, q2⟩ := c.gl h2
      obtain ⟨d, v, u, k1, k2, k3, k4⟩ := c.gls g x (beq_iff_eq.mp h1)
      exact sok_v c.hK (ev_glb k1 k2 (pe_glob q1 k3 k4 q2)) fun _ => rfl
  | .fnv f, X, W, sc, e, c, h => match e, h with
    | .Name x _, h => by
      obtain ⟨h1, h2⟩ := and2 h
      obtain ⟨q1, q2⟩ := c.gl h2
      exact sok_v c.hK (ev_k (fun _ _ => .fn _ (c.fns f x (beq_iff_eq.mp h1)).2) (pe_glob q1 (c.fns f x (beq_iff_eq.mp h1)).1 rfl q2)) fun _ => rfl
  | .typ n, X, W, sc, e, c, h => match e, h with
    | .Name x _, h => by
      obtain ⟨h, h4⟩ := and2 h
      obtain ⟨h1, h2, h3⟩ := and3 h
      obtain ⟨q1, q2⟩ := c.gl h4
      have e := beq_iff_eq.mp h1
      obtain ⟨b1, b2⟩ := boot_asked h2
      exact sok_v c.hK (ev_k (fun _ _ => .ty n) (pe_bltn q1 (c.blt x h3) (by rw [e]; exact b1) rfl (by rw [e]; exact b2) q2)) fun _ => rfl
  | .clsv i, X, W, sc, e, c, h => match e, h with
    | .Name x _, h => by
      obtain ⟨h1, h2⟩ := and2 h
      obtain ⟨q1, q2⟩ := c.gl h2
      exact sok_v c.hK (ev_k (fun _ _ => .cls _) (pe_glob q1 (c.cls i x (beq_iff_eq.mp h1)) rfl q2)) fun _ => rfl
  | .neg a, X, W, sc, e, c, h => match e, h with
    | .UnaryOp op a' _, h => by
      obtain ⟨h1, h2⟩ := and2 h
      have e := of_decide_eq_true h1
      subst e
      exact sok_v c.hK (ev_neg (sokE a a' c h2).ev) fun _ => rfl
  | .bin op a b, X, W, sc, e, c, h => match e, h with
    | .BinOp a' op' b' _, h => by
      obtain ⟨h1, h2, h3⟩ := and3 h
      have e := of_decide_eq_true h1
      subst e
      exact sok_v c.hK (ev_bin c.hK (sokE a a' c h2).ev (sokE b b' c h3).ev) fun _ => rfl
  | .cmp op a b, X, W, sc, e, c, h => match e, h with
    | .Compare a' [op'] [b'] _, h => by
      obtain ⟨h, h4⟩ := and2 h
      obtain ⟨h1, h2, h3⟩ := and3 h
      have e := of_decide_eq_true h1
      subst e
      have m : behindInMarks op b' = false := by simpa using h2
      exact ⟨ev_cmp c.hK c.un m (sokE a a' c h3).ev (sokE b b' c h4).ev, ts_cmp c.hK c.un m (sokE a a' c h3).ev (sokE b b' c h4).ev, fun tg _ => pi_v c.hK (ev_cmp c.hK c.un m (sokE a a' c h3).ev (sokE b b' c h4).ev) tg⟩
  | .chn o1 o2 x y z, X, W, sc, e, c, h => match e, h with
    | .Compare x' [p1, p2] [y', z'] _, h => by
      obtain ⟨h, h6⟩ := and2 h
      obtain ⟨h, h5⟩ := and2 h
      obtain ⟨h, h4⟩ := and2 h
      obtain ⟨h1, h2, h3⟩ := and3 h
      have e := of_decide_eq_true h1
      subst e
      have e := of_decide_eq_true h2
      subst e
      have m : lastMarks [o1, o2] [y', z'] = false := by simpa using h3
      have ev := ev_chn (pos := by assumption) c.hK c.un m (sokE x x' c h4).ev (sokE y y' c h5).ev (sokE z z' c h6).ev
      exact ⟨ev, ts_chn c.hK c.un m (sokE x x' c h4).ev (sokE y y' c h5).ev (sokE z z' c h6).ev, fun tg _ => pi_v c.hK ev tg⟩
  | .andE es, X, W, sc, e, c, h => match e, h with
    | .BoolOp op es' _, h => by
      obtain ⟨h1, h2, h3⟩ := and3 h
      have e := of_decide_eq_true h1
      subst e
      obtain ⟨q1, q2⟩ := (sokEs es es' c h3).and (notE h2)
      exact sok_no q1 q2.pt fun _ _ => rfl
  | .orE es, X, W, sc, e, c, h => match e, h with
    | .BoolOp op es' _, h => by
      obtain ⟨h1, h2, h3⟩ := and3 h
      have e := of_decide_eq_true h1
      subst e
      obtain ⟨q1, q2⟩ := (sokEs es es' c h3).or (notE h2)
      exact sok_no q1 q2.pt fun _ _ => rfl
  | .notE a, X, W, sc, e, c, h => match e, h with
    | .UnaryOp op a' _, h => by
      obtain ⟨h1, h2⟩ := and2 h
      have e := of_decide_eq_true h1
      subst e
      exact sok_no (ev_not (sokE a a' c h2).ev) (ts_not (sokE a a' c h2).ts) fun _ _ => rfl
  | .ife t a b, X, W, sc, e, c, h => match e, h with
    | .IfExp t' a' b' _, h => by
      obtain ⟨h1, h2, h3⟩ := and3 h
      have ev := ev_ife (pos := by assumption) (sokE t t' c h1).ts (sokE a a' c h2).ev (sokE b b' c h3).ev
      exact ⟨ev, ts_no fun _ _ => rfl, fun tg _ => pi_v c.hK ev tg⟩
  | .tup es, X, W, sc, e, c, h => match e, h with
    | .Tuple es' _ _, h => sok_v c.hK (ev_tup (sokEs es es' c h).pa) fun _ => rfl
  | .lst es, X, W, sc, e, c, h => match e, h with
    | .List es' _, h => sok_v c.hK (ev_lst (sokEs es es' c h).pa) fun _ => rfl
  | .ix a i, X, W, sc, e, c, h => match e, h with
    | .Subscript a' i' _, h => by
      obtain ⟨h1, h2, h3⟩ := and3 h
      refine sok_v c.hK (ev_ix c.hK c.un (fun o i => ?_) (sokE a a' c h2).ev (sokE i i' c h3).ev) fun _ => rfl
      cases i' <;> first | rfl | cases h1
  | .slc a lo hi, X, W, sc, e, c, h => match e, h with
    | .Subscript a' (.Slice lo' hi' none _) _, h => by
      obtain ⟨h1, h2, h3⟩ := and3 h
      exact sok_v c.hK (ev_slc c.hK (sokE a a' c h1).ev (sokO lo lo' c h2) (sokO hi hi' c h3)) fun _ => rfl
  | .call f es, X, W, sc, e, c, h => match e, h with
    | .Call (.Name x _) es' [] cp, h => by
      obtain ⟨h, hh⟩ := and2 h
      have hh : T.hot = false := by simpa using hh
      obtain ⟨h1, h2, h3⟩ := and3 h
      obtain ⟨q1, q2⟩ := c.gl h2
      have s := sokEs es es' c h3
      obtain ⟨m1, hl⟩ := c.fns f x (beq_iff_eq.mp h1)
      obtain ⟨m2, fd, ps, F, B⟩ := c.cold hh f hl
      refine sok_v c.hK (ev_call F (c.room hh) c.grd B c.tk q1 m1 m2 q2 s.pa (fun z => ?_) fun a r z => ?_) fun _ => rfl
      · subst z; cases es with
        | nil => rfl
        | cons _ _ => cases h3
      · subst z; exact s.head _ _
  | .bi b es, X, W, sc, e, c, h => match e, h with
    | .Call (.Name x _) es' [] cp, h => by
      obtain ⟨h, hh⟩ := and2 h
      obtain ⟨h, h5⟩ := and2 h
      obtain ⟨h, h4⟩ := and2 h
      obtain ⟨h1, h2, h3⟩ := and3 h
      obtain ⟨q1, q2⟩ := c.gl h3
      have s := sokEs es es' c h5
      cases es' with
      | nil => cases h4
      | cons a r =>
        obtain ⟨s1, s2⟩ := s.head cp X.env
        exact sok_v c.hK (ev_bi (beq_iff_eq.mp h1) c.hK (fun z => c.calm (by rw [z] at hh; simpa using hh)) c.un c.grd q1 (c.blt x h2) s.pa q2 s1 s2) fun _ => rfl
  | .rng es, X, W, sc, e, c, h => match e, h with
    | .Call (.Name x _) es' [] cp, h => by
      obtain ⟨h, h5⟩ := and2 h
      obtain ⟨h, h4⟩ := and2 h
      obtain ⟨h1, h2, h3⟩ := and3 h
      obtain ⟨q1, q2⟩ := c.gl h3
      have s := sokEs es es' c h5
      have e := beq_iff_eq.mp h1
      subst e
      have sl := s.len
      refine sok_walk fun tg _ => ?_
      simp only [Bool.or_eq_true, decide_eq_true_eq] at h4
      rcases h4 with h4 | h4
      · match es', h4, s, sl with
        | [a], _, s, sl => exact PI_imp (pi_range1 q1 (c.blt _ h2) s.pa (s.head cp X.env).1) (imp_rng1 sl)
      · match es', h4, s, sl with
        | [a, b], _, s, sl => exact PI_imp (pi_range2 q1 (c.blt _ h2) s.pa (by rw [(s.head cp X.env).1, s.head2 X.env]; rfl) (by rw [s.head2 X.env]; rfl)) (imp_rng2 sl)
  | .zip es, X, W, sc, e, c, h => match e, h with
    | .Call (.Name x _) es' [] cp, h => by
      obtain ⟨h, h5⟩ := and2 h
      obtain ⟨h, h4⟩ := and2 h
      obtain ⟨h1, h2, h3⟩ := and3 h
      obtain ⟨q1, q2⟩ := c.gl h3
      have s := sokEs es es' c h5
      have e := beq_iff_eq.mp h1
      subst e
      have h4 := of_decide_eq_true h4
      refine sok_walk fun tg ht => ?_
      have ht := ht rfl
      match es', h4, s with
      | [a, b], _, s =>
        cases tg with
        | Tuple ts kk p => exact PI_imp (pi_zipB q1 (c.blt _ h2) s.pa (s.head cp X.env).1 (s.head cp X.env).2) (c.hK ▸ imp_zip)
        | _ => cases ht
  | .enum es, X, W, sc, e, c, h => match e, h with
    | .Call (.Name x _) es' [] cp, h => by
      obtain ⟨h, h5⟩ := and2 h
      obtain ⟨h, h4⟩ := and2 h
      obtain ⟨h1, h2, h3⟩ := and3 h
      obtain ⟨q1, q2⟩ := c.gl h3
      have s := sokEs es es' c h5
      have e := beq_iff_eq.mp h1
      subst e
      have h4 := of_decide_eq_true h4
      refine sok_walk fun tg ht => ?_
      have ht := ht rfl
      match es', h4, s with
      | [a], _, s =>
        cases tg with
        | Tuple ts kk p => exact PI_imp (pi_enum q1 (c.blt _ h2) (PA_sz s.pa) (s.head cp X.env).1) (c.hK ▸ imp_enum)
        | _ => cases ht
  | .mt m a es, X, W, sc, e, c, h => match e, h with
    | .Call (.Attribute a' n apos) es' [] pos, h => by
      obtain ⟨h, h7⟩ := and2 h
      obtain ⟨h, h6⟩ := and2 h
      obtain ⟨h, h5⟩ := and2 h
      obtain ⟨h, h4⟩ := and2 h
      obtain ⟨h1, h2, h3⟩ := and3 h
      have e := of_decide_eq_true h1
      subst e
      have e := beq_iff_eq.mp h2
      subst e
      have s := sokEs es es' c h7
      have h5 := of_decide_eq_true h5
      match es', h5, s with
      | [b], _, s =>
        refine sok_v c.hK (ev_app c.hK (sokE a a' c h6).ev s.pa ?_ ?_ h4 (s.head pos X.env).1 (s.head pos X.env).2) fun _ => rfl
        · cases a' <;> first | rfl | cases h3
        · rw [(s.head pos X.env).1]; rfl
  | .lc e tg it ifs vs, X, W, sc, ex, c, h => match ex, h with
    | .ListComp e' [⟨tgt, iter, ifs', as⟩] scope _, h => by
      obtain ⟨h, h6⟩ := and2 h
      obtain ⟨h, h5⟩ := and2 h
      obtain ⟨h, h4⟩ := and2 h
      obtain ⟨h, h2, h3⟩ := and3 h
      obtain ⟨h1, hh⟩ := and2 h
      have hh : T.hot = false := by simpa using hh
      have z := of_decide_eq_true h1
      subst z
      have b := blkH c hh h2 (of_decide_eq_true h3) (sokE it iter c h4) fun X' hN c' => sokEs ifs ifs' c' (by rw [hN]; exact h5)
      exact sok_v c.hK (b.lc c hh fun X' hN c' => sokE e e' c' (by rw [hN]; exact h6)) fun _ => rfl
  | .dc kx vx tg it ifs vs, X, W, sc, ex, c, h => match ex, h with
    | .DictComp k' v' [⟨tgt, iter, ifs', as⟩] scope _, h => by
      obtain ⟨h, h7⟩ := and2 h
      obtain ⟨h, h6⟩ := and2 h
      obtain ⟨h, h5⟩ := and2 h
      obtain ⟨h, h4⟩ := and2 h
      obtain ⟨h, h2, h3⟩ := and3 h
      obtain ⟨h1, hh⟩ := and2 h
      have hh : T.hot = false := by simpa using hh
      have z := of_decide_eq_true h1
      subst z
      have b := blkH c hh h2 (of_decide_eq_true h3) (sokE it iter c h4) fun X' hN c' => sokEs ifs ifs' c' (by rw [hN]; exact h5)
      exact sok_v c.hK (b.dc c hh (fun X' hN c' => sokE kx k' c' (by rw [hN]; exact h6)) fun X' hN c' => sokE vx v' c' (by rw [hN]; exact h7)) fun _ => rfl
  | .isE i c' subs, X, W, sc, e, c, h => sok_isE c h
  | .isV i, X, W, sc, e, c, h => sok_isV c h
  | .attr i f cs, X, W, sc, e, c, h => sok_attr c h
  | .dyn i es, X, W, sc, e, c, h => match e, h with
    | .Call (.Name x _) es' [] cp, h => by
      obtain ⟨h, hh⟩ := and2 h
      have hh : T.hot = false := by simpa using hh
      obtain ⟨h1, h2, h3⟩ := and3 h
      obtain ⟨v1, v2, v3⟩ := c.vi h2
      have s := sokEs es es' c h3
      refine sok_v c.hK (ev_dyn c.hK (fun j hj => c.cold hh j hj) (c.room hh) c.grd c.tk (beq_iff_eq.mp h1) v1 v2 v3 s.pa (fun z => ?_) fun a r z => ?_) fun _ => rfl
      · subst z; cases es with
        | nil => rfl
        | cons _ _ => cases h3
      · subst z; exact s.head _ _
  | .pm m a es, X, W, sc, e, c, h => match e, h with
    | .Call (.Attribute a' n apos) es' [] pos, h => by
      obtain ⟨h, h7⟩ := and2 h
      obtain ⟨h, h6⟩ := and2 h
      obtain ⟨h, h5⟩ := and2 h
      obtain ⟨h1, h3, h4⟩ := and3 h
      have e := beq_iff_eq.mp h1
      have s := sokEs es es' c h7
      have h5 := of_decide_eq_true h5
      match es', h5, s with
      | [b], _, s =>
        refine sok_v c.hK (ev_pm c.hK (by have := c.un; omega) e (sokE a a' c h6).ev s.pa ?_ ?_ h4 (s.head pos X.env).1 (s.head pos X.env).2) fun _ => rfl
        · cases a' <;> first | rfl | cases h3
        · rw [(s.head pos X.env).1]; rfl
theorem sokEs {G : Gb} {T : Tb} {Fs : Fns} {Gs : List D} {k : Nat} : ∀ (ms : List Ex) {X : Cx} {W : WX} {sc : Scope} (es : List Expr), Cok G W X T Fs Gs sc k → chkEs T X.N sc ms es = true → Soks G W X es (sems Fs Gs ms)
  | [], X, W, sc, es, c, h => by
    cases es with
    | nil => exact .nil
    | cons _ _ => cases h
  | m :: ms, X, W, sc, es, c, h => match es, h with
    | e :: r, h => by
      obtain ⟨h1, h2, h3⟩ := and3 h
      exact .cons (sokE m e c h2) h1 (sokEs ms r c h3)
theorem sokO {G : Gb} {T : Tb} {Fs : Fns} {Gs : List D} {k : Nat} : ∀ (m : Option Ex) {X : Cx} {W : WX} {sc : Scope} (e : Option Expr), Cok G W X T Fs Gs sc k → chkO T X.N sc m e = true → PO X e (tPt (G := G) (W := W) (evPart (semo Fs Gs m)))
  | none, X, W, sc, e, c, h => by
    cases e with
    | none => exact pt_none'
    | some _ => cases h
  | some m, X, W, sc, e, c, h => match e, h with
    | some e, h => pt_some' (sokE m e c h).ev
end
end Mi

set_option maxHeartbeats 4000000
/-! does a statement of the text look like one of the small language; then it does what that says -/
namespace Mi
open PySem PySem.Spec PyProof.Rows L2
def notComp : Expr → Bool
  | .ListComp _ _ _ _ => false
  | .SetComp _ _ _ _ => false
  | .DictComp _ _ _ _ _ => false
  | _ => true
/-- x = [..], where the value is stored ahead of the end of the comprehension -/
def swT (sc scope : Scope) (x : Str) (px pos : Pos) : Bool :=
  decide (sc.names.lookup x = some .local) && (px.line == pos.line) && !(scope.names.any fun (n, k) => n == x && (k == .local || k == .cell))
def isFrz : Sx → Bool
  | .frz _ => true
  | _ => false
/-- try: body, except x (as n): suite -/
def tryParts : Stmt → Option (List Stmt × Str × Option Str × List Stmt)
  | .Try body [.ExceptHandler (some (.Name x _)) n suite _] [] [] _ => some (body, x, n, suite)
  | _ => none
theorem tryParts_some {st : Stmt} {body suite : List Stmt} {x : Str} {n : Option Str} (h : tryParts st = some (body, x, n, suite)) : ∃ p q r, st = .Try body [.ExceptHandler (some (.Name x p)) n suite q] [] [] r := by
  unfold tryParts at h
  split at h
  · cases h; exact ⟨_, _, _, rfl⟩
  · cases h
def retConst : List Stmt → Option Const
  | [.Return (some (.Constant c _ _)) _] => some c
  | _ => none
theorem retConst_some {ss : List Stmt} {c : Const} (h : retConst ss = some c) : ∃ k p q, ss = [.Return (some (.Constant c k p)) q] := by
  unfold retConst at h
  split at h
  · cases h; exact ⟨_, _, _, rfl⟩
  · cases h
def retCall : List Stmt → Option (Str × Str)
  | [.Return (some (.Call (.Name f _) [.Name n _] [] _)) _] => some (f, n)
  | _ => none
theorem retCall_some {ss : List Stmt} {f n : Str} (h : retCall ss = some (f, n)) : ∃ p q r s, ss = [.Return (some (.Call (.Name f p) [.Name n q] [] r)) s] := by
  unfold retCall at h
  split at h
  · cases h; exact ⟨_, _, _, _, rfl⟩
  · cases h
section
variable (T : Tb) (N : List Str) (sc : Scope)
/-- x = e -/
def chkA (i : Nat) (m : Ex) : Stmt → Bool
  | .Assign [.Name x px] v _ => N[i]? == some x && sto sc x && chkE T N sc m v && (match v with
    | .ListComp _ _ scope pos => swT sc scope x px pos || decide (sc.names.lookup x = some .cell)
    | .DictComp _ _ _ scope pos => swT sc scope x px pos || decide (sc.names.lookup x = some .cell)
    | .SetComp _ _ _ _ => false
    | _ => true)
  | _ => false
def locN (x : Str) : Bool := decide (sc.names.lookup x = some .local)
def notTup : Expr → Bool
  | .Tuple _ _ _ => false
  | _ => true
/-- a, b = x, y; a, b, c = x, y, z: stored from the right -/
def parOk (ts vs : List Expr) : Bool := match ts with
  | [.Name x px, .Name y py] => locN sc x && locN sc y && (py.line == px.line) && !(x == y) && decide (vs.length = 2) && vs.all notStar && !vs.all (foldedForSure 8) && !vs.all (constantsAlone 8)
  | [.Name x px, .Name y py, .Name z pz] => locN sc x && locN sc y && locN sc z && (py.line == px.line) && (pz.line == px.line) && !(x == y) && !(x == z) && !(y == z) && decide (vs.length = 3) && vs.all notStar && !vs.all (foldedForSure 8) && !vs.all (constantsAlone 8)
  | _ => false
def chkPar (ts : List Tg) (m : Ex) (es : List Expr) (v : Expr) : Bool := match ts with
  | [.nm _, .nm _] => (match m with
    | .tup _ => (match v with
      | .Tuple vs _ _ => decide (es.length = 2) && parOk sc es vs
      | _ => false)
    | _ => false)
  | [.nm _, .nm _, .nm _] => (match m with
    | .tup _ => (match v with
      | .Tuple vs _ _ => decide (es.length = 3) && parOk sc es vs
      | _ => false)
    | _ => false)
  | _ => false
/-- a target that is no plain local name -/
def offLoc (es : List Expr) : Bool := es.any fun e => match e with
  | .Name x _ => !decide (sc.names.lookup x = some .local)
  | _ => true
def chkP (ts : List Tg) (m : Ex) : Stmt → Bool
  | .Assign [.Tuple es _ _] v _ => !T.hot && chkE T N sc m v && chkTs N sc ts es && (notTup v || decide (4 ≤ es.length) || offLoc sc es || chkPar sc ts m es v)
  | _ => false
/-- o[i] = e -/
def chkI (o i e : Ex) : Stmt → Bool
  | .Assign [.Subscript o' i' _] v _ => notSlice i' && chkE T N sc o o' && chkE T N sc i i' && chkE T N sc e v
  | _ => false
/-- raise C(e) -/
def chkR (c : Nat) (es : List Ex) : Stmt → Bool
  | .Raise (some (.Call (.Name x _) [a] [] _)) none _ => !T.hot && T.cls[c]? == some x && glo sc x && T.leaf.contains c && chkEs T N sc es [a]
  | _ => false
/-- x, y = a, b with a new list at x -/
def chkL (i : Nat) (e1 : Ex) (j : Nat) (e2 : Ex) : Stmt → Bool
  | .Assign [.Tuple [.Name x px, .Name y py] _ _] (.Tuple [a, b] _ _) _ => !T.hot && N[i]? == some x && N[j]? == some y && parOk sc [.Name x px, .Name y py] [a, b] && chkE T N sc e1 a && chkE T N sc e2 b
  | _ => false
def chkXs : List (Ex × Ex) → List Expr → Bool
  | [], es => es.isEmpty
  | (o, i) :: ts, es => match es with
    | .Subscript o' i' _ :: r => notSlice i' && chkE T N sc o o' && chkE T N sc i i' && chkXs ts r
    | _ => false
/-- o[i], p[j] = e -/
def chkX (ts : List (Ex × Ex)) (e : Ex) : Stmt → Bool
  | .Assign [.Tuple es _ _] v _ => !T.hot && !es.isEmpty && chkXs T N sc ts es && chkE T N sc e v
  | _ => false
/-- x += e -/
def chkAug (i : Nat) (op : Operator) (e : Ex) : Stmt → Bool
  | .AugAssign (.Name x _) op' v _ => decide (op = op') && (decide (op = .Add) || decide (op = .Sub)) && N[i]? == some x && sto sc x && chkE T N sc e v
  | _ => false
mutual
def chkS : Sx → Stmt → Bool
  | .asg i e, st => chkA T N sc i e st
  | .asgN i e, st => chkA T N sc i e st
  | .asgS ts e, st => chkP T N sc ts e st
  | .setix o i e, st => chkI T N sc o i e st
  | .ex e, st => match st with
    | .Expr e' _ => notComp e' && chkE T N sc e e'
    | _ => false
  | .ret e, st => match st with
    | .Return (some e') _ => chkE T N sc e e'
    | _ => false
  | .retN, st => match st with
    | .Return none _ => true
    | _ => false
  | .iff t a b, st => match st with
    | .If t' a' b' _ => chkE T N sc t t' && chkB a a' && chkB b b'
    | _ => false
  | .whl t b, st => match st with
    | .While t' b' [] _ => chkE T N sc t t' && chkB b b'
    | _ => false
  | .for tg it b, st => match st with
    | .For tg' it' b' [] _ => !T.hot && chkT N sc tg tg' && notSet it' && (!isPair it || tupT tg') && chkE T N sc it it' && chkB b b'
    | _ => false
  | .brk, st => match st with
    | .Break _ => true
    | _ => false
  | .cont, st => match st with
    | .Continue _ => true
    | _ => false
  | .pass, st => match st with
    | .Pass _ => true
    | _ => false
  | .raise c es, st => chkR T N sc c es st
  | .tryR b c subs d, st => match tryParts st with
    | some (body, x, none, suite) => !T.hot && T.cls[c]? == some x && glo sc x && (T.subs.lookup c == some subs) && (kV d).isSome && retConst suite == kC d && (retConst suite).isSome && chkB b body
    | _ => false
  | .tryF b c subs i f, st => match tryParts st with
    | some (body, x, some n, suite) => (match retCall suite with
      | some (fx, n2) => !T.hot && T.cls[c]? == some x && glo sc x && (T.subs.lookup c == some subs) && N[i]? == some n && locN sc n && vis sc n && n2 == n && T.fns[f]? == some fx && glo sc fx && T.hotf.contains f && chkB b body
      | none => false)
    | _ => false
  | .frz _, _ => false
  | .asgP i e1 j e2, st => chkL T N sc i e1 j e2 st
  | .asgX ts e, st => chkX T N sc ts e st
  | .aug i op e, st => chkAug T N sc i op e st
def chkB : List Sx → List Stmt → Bool
  | [], ss => ss.isEmpty
  | s :: r, ss => if isFrz s then chkB r ss else match ss with
    | st :: ss => chkS s st && chkB r ss
    | [] => false
end
end

structure Cst (G : Gb) (W : WX) (X : Cx) (T : Tb) (Fs : Fns) (Gs : List D) (sc : Scope) (k : Nat) : Prop where
  c : Cok G W X T Fs Gs sc k
  st : Stores X sc
  kf : X.env.scope.kind = .function
  hp : PassesOwn (model X.prog X.w) X.A X.env X.xe
  hs : X.stack = X.env :: X.outer
  hf : X.env.frame = some X.env.locals
section
variable {G : Gb} {W : WX} {X : Cx} {T : Tb} {Fs : Fns} {Gs : List D} {sc : Scope} {k : Nat}
theorem sw_false {v : Expr} (h : notComp v = true) (t : Option Expr) (l : Nat) (env : PySem.Env) : swapsWith v t l env = pure false := by
  cases v <;> first | rfl | cases h
theorem sw_true' {v : Expr} {scope : Scope} {pos px : Pos} {x : Str} {l : Nat} {env : PySem.Env} (hv : (∃ e gs, v = .ListComp e gs scope pos) ∨ ∃ a b gs, v = .DictComp a b gs scope pos) (hk : env.scope.kind = .function) (hsc : env.scope = sc) (h : swT sc scope x px pos = true) : swapsWith v (some (.Name x px)) l env = pure true := by
  unfold swT at h
  obtain ⟨h1, h2, h3⟩ := and3 h
  have ky : env.kindOf x = some .local := by show env.scope.names.lookup x = _; rw [hsc]; exact of_decide_eq_true h1
  have hb : env.blockKind = .function := by unfold Env.blockKind; rw [hk]; rfl
  have h3 : (scope.names.any fun (n, k) => n == x && (k == .local || k == .cell)) = false := by simpa using h3
  rcases hv with ⟨e, gs, rfl⟩ | ⟨a, b, gs, rfl⟩
  · unfold swapsWith
    simp only [hb, ky, h3, Expr.pos, h2]
    rfl
  · unfold swapsWith
    simp only [hb, ky, h3, Expr.pos, h2]
    rfl
theorem sw_cell {v : Expr} {x : Str} {px : Pos} {l : Nat} {env : PySem.Env} (h : env.scope.names.lookup x = some .cell) (hs : ∀ e gs sc p, v ≠ .SetComp e gs sc p) : swapsWith v (some (.Name x px)) l env = pure false := by
  have ky : env.kindOf x = some .cell := h
  have b : (env.kindOf x == some NameKind.local) = false := by rw [ky]; rfl
  cases v <;> first | rfl | exact absurd rfl (hs _ _ _ _) | (unfold swapsWith; simp only [b, Bool.and_false, Bool.false_and])
/-- x = {..: ..} on one line -/
theorem ps_dc {i : Nat} {x : Str} {px : Pos} {kx vx tg iter : Expr} {ifs : List Expr} {scope : Scope} {own : List (Str × Nat)} {pos spos : Pos} {wi : TI} {g : TG} {tt : TT} {tk tv : TE} (hc : X.calm = true) (hN : X.N.Nodup) (hx : X.N[i]? = some x) (hl : X.env.scope.names.lookup x = some .local)
    (hsw : swapsWith (.DictComp kx vx [⟨tg, iter, ifs, 0⟩] scope pos) (some (.Name x px)) spos.line X.env = pure true) (hi : PI X tg iter wi) (ok : BlkOk X.N X.env.scope scope own)
    (hg : ∀ (s : Shared) (H : Hp) (C : Addr) (cl : List (Str × Addr)) (fp : List Addr), PG (X.blk s H scope (compEnvC scope cl C X.env) fp) tg g)
    (ht : ∀ (s : Shared) (H : Hp) (C : Addr) (cl : List (Str × Addr)) (fp : List Addr), PTs (X.blk s H scope (compEnvC scope cl C X.env) fp) ifs tt)
    (hk : ∀ (s : Shared) (H : Hp) (C : Addr) (cl : List (Str × Addr)) (fp : List Addr), PE (X.blk s H scope (compEnvC scope cl C X.env) fp) kx tk)
    (hv : ∀ (s : Shared) (H : Hp) (C : Addr) (cl : List (Str × Addr)) (fp : List Addr), PE (X.blk s H scope (compEnvC scope cl C X.env) fp) vx tv) (hs : ∀ y, foldedSetIterable iter X.env y = pure y) :
    PS X (.Assign [.Name x px] (.DictComp kx vx [⟨tg, iter, ifs, 0⟩] scope pos) spos) (tAsg (tDc wi g tt tk tv (own.map (·.2))) (gName i)) := by
  refine ⟨fun pins s σ H D I h => ?_⟩
  rw [exec_Assign_Name_used _ _ _ _ hsw]
  refine wpAny_bind (wpAny_standAt (wpAny_bind ?_))
  show wpAny _ X.A (comprehension (.DictComp kx vx [⟨tg, iter, ifs, 0⟩] scope pos) scope X.env (firstIterPos [⟨tg, iter, ifs, 0⟩] pos) newDict false (eval iter X.env) (some (assign (.Name x px) X.env)) >>= fun _ => pure ()) _ _ s
  have h : tDc wi g tt tk tv (own.map (·.2)) σ H (fun y H1 => gName i y σ H1 D.nx) := h
  refine wpAny_bind (thn (dc_core (Qf := fun _ s' => SP X pins D .next s') hc hN I hi ok hg ht hk hv hs h fun L C s' m H' I' q hn f => ?_) fun _ s' hq => wpAny_pure (wpAny_pure hq))
  show wpAny _ _ (assign (.Name x px) X.env (.ref L)) _ _ _
  refine wpAny_assign_Name (store_ok2 (v := V.ref L) I' hN hx (.inl hl) rfl (fun s2 I2 w => ?_) (.inr hl))
  obtain ⟨b, sb, hb⟩ := w
  obtain ⟨f0, f1, f2, f3, f4, f5⟩ := f
  have ne : C ≠ b := hb.elim (fun z => by rw [z]; exact f1) fun z e => f4 x b z e.symm
  exact ⟨m, hn.sameBut sb ne, fun h3 sb3 => ⟨_, H', I2.turned (t' := s2.toks) (fun c o hc' e => (sb3.2 c hc').trans e) f0 f1 f3 f4 f5, q⟩⟩
theorem asgName (c : Cst G W X T Fs Gs sc k) (i : Nat) (m : Ex) (st : Stmt) (h : chkA T X.N sc i m st = true) : PS X st (tAsg (tI G W (sem Fs Gs m).ev) (gName i)) := by
  unfold chkA at h
  split at h
  · rename_i x px v spos
    obtain ⟨h, h4⟩ := and2 h
    obtain ⟨h1, h2, h3⟩ := and3 h
    obtain ⟨s1, s2⟩ := c.st x h2
    have h1 := beq_iff_eq.mp h1
    by_cases nc : notComp v = true
    · exact ps_set c.c.nd h1 s1 (sokE m v c.c h3).ev (sw_false nc _ _ _) s2
    have hsc := c.c.hsc
    by_cases cl : sc.names.lookup x = some .cell ∧ ∀ e gs sc p, v ≠ .SetComp e gs sc p
    · exact ps_set c.c.nd h1 s1 (sokE m v c.c h3).ev (sw_cell (by rw [hsc]; exact cl.1) cl.2) s2
    · cases v with
      | ListComp elt gs scope pos =>
        have h4 : swT sc scope x px pos = true := by
          rcases Bool.or_eq_true_iff.mp h4 with q | q
          · exact q
          · exact absurd ⟨of_decide_eq_true q, fun _ _ _ _ z => by cases z⟩ cl
        cases m with
        | lc e tg it ifs vs =>
          match gs, h3, h4 with
          | [⟨tgt, iter, ifs', as⟩], h3, h4 =>
            obtain ⟨h3, h36⟩ := and2 h3
            obtain ⟨h3, h35⟩ := and2 h3
            obtain ⟨h3, h34⟩ := and2 h3
            obtain ⟨h3, h32, h33⟩ := and3 h3
            obtain ⟨h31, hh⟩ := and2 h3
            have hh : T.hot = false := by simpa using hh
            have z := of_decide_eq_true h31
            subst z
            have b := blkH c.c hh h32 (of_decide_eq_true h33) (sokE it iter c.c h34) fun X' hN c' => sokEs ifs ifs' c' (by rw [hN]; exact h35)
            have hl : X.env.scope.names.lookup x = some .local := by
              rw [c.c.hsc]
              have q : swT sc scope x px pos = true := h4
              unfold swT at q
              exact of_decide_eq_true (and3 q).1
            have ps := ps_setLc (py := px) (spos := spos) (pos := pos) (c.c.calm hh) c.c.nd h1 hl (sw_true' (.inl ⟨_, _, rfl⟩) c.kf c.c.hsc h4) b.hi b.ok b.hg b.ht (fun s H C cl fp => (sokE (X := X.blk s H scope (compEnvC scope cl C X.env) fp) e elt (c.c.blk hh) h36).ev) b.hs
            rw [ownN_2] at ps
            exact PS_imp ps fun D σ H h => imp_lc b.hsl σ H _ h
        | _ => cases h3
      | DictComp kx vx gs scope pos =>
        have h4 : swT sc scope x px pos = true := by
          rcases Bool.or_eq_true_iff.mp h4 with q | q
          · exact q
          · exact absurd ⟨of_decide_eq_true q, fun _ _ _ _ z => by cases z⟩ cl
        cases m with
        | dc k' v' tg it ifs vs =>
          match gs, h3, h4 with
          | [⟨tgt, iter, ifs', as⟩], h3, h4 =>
            obtain ⟨h3, h37⟩ := and2 h3
            obtain ⟨h3, h36⟩ := and2 h3
            obtain ⟨h3, h35⟩ := and2 h3
            obtain ⟨h3, h34⟩ := and2 h3
            obtain ⟨h3, h32, h33⟩ := and3 h3
            obtain ⟨h31, hh⟩ := and2 h3
            have hh : T.hot = false := by simpa using hh
            have z := of_decide_eq_true h31
            subst z
            have b := blkH c.c hh h32 (of_decide_eq_true h33) (sokE it iter c.c h34) fun X' hN c' => sokEs ifs ifs' c' (by rw [hN]; exact h35)
            have hl : X.env.scope.names.lookup x = some .local := by
              rw [c.c.hsc]
              have q : swT sc scope x px pos = true := h4
              unfold swT at q
              exact of_decide_eq_true (and3 q).1
            have ps := ps_dc (px := px) (spos := spos) (pos := pos) (c.c.calm hh) c.c.nd h1 hl (sw_true' (.inr ⟨_, _, _, rfl⟩) c.kf c.c.hsc h4) b.hi b.ok b.hg b.ht (fun s H C cl fp => (sokE (X := X.blk s H scope (compEnvC scope cl C X.env) fp) k' kx (c.c.blk hh) h36).ev)
              (fun s H C cl fp => (sokE (X := X.blk s H scope (compEnvC scope cl C X.env) fp) v' vx (c.c.blk hh) h37).ev) b.hs
            rw [ownN_2] at ps
            exact PS_imp ps fun D σ H h => imp_dc b.hsl σ H _ h
        | _ => cases h3
      | SetComp _ _ _ _ => cases h4
      | _ => exact absurd rfl nc
  · cases h
end
end Mi

set_option maxHeartbeats 4000000
/-! statements that look like the small language's do what that says -/
namespace Mi
open PySem PySem.Spec PyProof.Rows L2
section
variable {G : Gb} {W : WX} {X : Cx} {T : Tb} {Fs : Fns} {Gs : List D} {sc : Scope} {k : Nat}
theorem swap2 {x y : Str} {px py pt : Pos} {kt k2 : Nat} {pt2 : Pos} {vs : List Expr} {env : PySem.Env} (hk : env.scope.kind = .function) (h : parOk env.scope [.Name x px, .Name y py] vs = true) :
    swappedStores [.Tuple [.Name x px, .Name y py] kt pt] (.Tuple vs k2 pt2) env = pure (some [x, y]) ∧ vs.length = 2 ∧ env.scope.names.lookup x = some .local ∧ env.scope.names.lookup y = some .local := by
  unfold parOk locN at h
  simp only [Bool.and_eq_true, decide_eq_true_eq, Bool.not_eq_true'] at h
  obtain ⟨⟨⟨⟨⟨⟨⟨h1, h2⟩, h3⟩, h4⟩, h5⟩, h6⟩, h7⟩, h8⟩ := h
  have hb : env.blockKind = .function := by unfold Env.blockKind; rw [hk]; rfl
  have kx : env.kindOf x = some .local := h1
  have ky : env.kindOf y = some .local := h2
  have ne : (y == x) = false := by rw [Bool.eq_false_iff] at h4 ⊢; intro z; exact h4 (by rw [beq_iff_eq] at z ⊢; exact z.symm)
  refine ⟨?_, h5, h1, h2⟩
  have e3 : py.line = px.line := beq_iff_eq.mp h3
  have ns : ∀ e ∈ vs, notStar e = true := List.all_eq_true.mp h6
  unfold swappedStores
  simp only [List.length_cons, List.length_nil, h5, hb, h7, h8, kx, ky, e3, List.filterMap_cons, List.filterMap_nil, List.head?_cons, Option.map_some, Option.getD_some, Expr.pos, beq_self_eq_true, Bool.and_self, if_true, List.eraseDups_cons, ne, List.filter_cons, List.filter_nil]
  simp [ne]
  rw [if_neg (by rintro ⟨e, he, hm⟩; have q := ns e he; cases e <;> first | (cases hm; done) | (cases q; done))]
  rfl
theorem swap3 {x y z : Str} {px py pz pt : Pos} {kt k2 : Nat} {pt2 : Pos} {vs : List Expr} {env : PySem.Env} (hk : env.scope.kind = .function) (h : parOk env.scope [.Name x px, .Name y py, .Name z pz] vs = true) :
    swappedStores [.Tuple [.Name x px, .Name y py, .Name z pz] kt pt] (.Tuple vs k2 pt2) env = pure (some [x, y, z]) ∧ vs.length = 3 ∧ env.scope.names.lookup x = some .local ∧ env.scope.names.lookup y = some .local ∧ env.scope.names.lookup z = some .local := by
  unfold parOk locN at h
  simp only [Bool.and_eq_true, decide_eq_true_eq, Bool.not_eq_true'] at h
  obtain ⟨⟨⟨⟨⟨⟨⟨⟨⟨⟨⟨h1, h2⟩, h2z⟩, h3⟩, h3z⟩, h4⟩, h4b⟩, h4c⟩, h5⟩, h6⟩, h7⟩, h8⟩ := h
  have hb : env.blockKind = .function := by unfold Env.blockKind; rw [hk]; rfl
  have kx : env.kindOf x = some .local := h1
  have ky : env.kindOf y = some .local := h2
  have kz : env.kindOf z = some .local := h2z
  have flip : ∀ {a b : Str}, (a == b) = false → (b == a) = false := fun h => by rw [Bool.eq_false_iff] at h ⊢; intro z; exact h (by rw [beq_iff_eq] at z ⊢; exact z.symm)
  have n1 := flip h4
  have n2 := flip h4b
  have n3 := flip h4c
  refine ⟨?_, h5, h1, h2, h2z⟩
  have e3 : py.line = px.line := beq_iff_eq.mp h3
  have e4 : pz.line = px.line := beq_iff_eq.mp h3z
  have ns : ∀ e ∈ vs, notStar e = true := List.all_eq_true.mp h6
  unfold swappedStores
  simp only [List.length_cons, List.length_nil, h5, hb, h7, h8, kx, ky, kz, e3, e4, List.filterMap_cons, List.filterMap_nil, List.head?_cons, Option.map_some, Option.getD_some, Expr.pos, beq_self_eq_true, Bool.and_self, if_true, List.eraseDups_cons, n1, n2, n3, List.filter_cons, List.filter_nil]
  have e5 : [y, z].eraseDups.length = 2 := by rw [List.eraseDups_cons]; simp [n3]; rfl
  simp [n1, n2, n3]
  rw [if_neg (by rintro ⟨e, he, hm⟩; have q := ns e he; cases e <;> first | (cases hm; done) | (cases q; done)), if_pos e5]
theorem swap4 {ts vs : List Expr} {kt k2 : Nat} {pt pt2 : Pos} {env : PySem.Env} (h : 4 ≤ ts.length) : swappedStores [.Tuple ts kt pt] (.Tuple vs k2 pt2) env = pure none := by
  have e2 : (ts.length == 2) = false := by rw [beq_eq_false_iff_ne]; omega
  have e3 : (ts.length == 3) = false := by rw [beq_eq_false_iff_ne]; omega
  unfold swappedStores
  simp only [e2, e3]
  rfl
theorem fm_lt {α β : Type} {f : α → Option β} : ∀ {l : List α}, (∃ e ∈ l, f e = none) → (l.filterMap f).length < l.length
  | [], ⟨e, h, _⟩ => nomatch h
  | a :: l, ⟨e, h, q⟩ => by
    have le := List.length_filterMap_le f l
    cases z : f a with
    | none => rw [List.filterMap_cons_none z, List.length_cons]; omega
    | some b =>
      rcases List.mem_cons.mp h with h | h
      · subst h; rw [q] at z; cases z
      · have := fm_lt ⟨e, h, q⟩
        rw [List.filterMap_cons_some z, List.length_cons, List.length_cons]; omega
theorem swapOff {ts vs : List Expr} {kt k2 : Nat} {pt pt2 : Pos} {env : PySem.Env} (h : offLoc env.scope ts = true) : swappedStores [.Tuple ts kt pt] (.Tuple vs k2 pt2) env = pure none := by
  unfold swappedStores
  simp only []
  split
  · rfl
  · split
    · rfl
    · rw [if_pos]
      rw [Bool.or_eq_true]
      left
      rw [bne_iff_ne]
      refine Nat.ne_of_lt (fm_lt ?_)
      obtain ⟨e, he, q⟩ := List.any_eq_true.mp h
      refine ⟨e, he, ?_⟩
      cases e with
      | Name x p =>
        have q : env.scope.names.lookup x ≠ some .local := by simpa using q
        have b : (env.kindOf x == some NameKind.local) = false := by rw [beq_eq_false_iff_ne]; exact q
        simp only [b, Bool.false_and, Bool.false_eq_true, if_false]
      | _ => rfl
theorem swapOffV {ts : List Expr} {v : Expr} {kt : Nat} {pt : Pos} {env : PySem.Env} (h : offLoc env.scope ts = true) : swappedStores [.Tuple ts kt pt] v env = pure none := by
  cases v <;> first | rfl | exact swapOff h
theorem swap4v {ts : List Expr} {v : Expr} {kt : Nat} {pt : Pos} {env : PySem.Env} (h : 4 ≤ ts.length) : swappedStores [.Tuple ts kt pt] v env = pure none := by
  cases v <;> first | rfl | exact swap4 h
theorem swap_no {ts : List Expr} {v : Expr} {kt : Nat} {pt : Pos} {env : PySem.Env} (h : notTup v = true) : swappedStores [.Tuple ts kt pt] v env = pure none := by
  cases v <;> first | rfl | cases h
theorem nm_of {e : Expr} {i : Nat} (h : chkT X.N sc (.nm i) e = true) : ∃ x p, e = .Name x p ∧ X.N[i]? = some x := by
  cases e with
  | Name x p => exact ⟨x, p, rfl, beq_iff_eq.mp (and2 (show (X.N[i]? == some x && sto sc x) = true from h)).1⟩
  | _ => cases h
theorem asgPar (c : Cst G W X T Fs Gs sc k) (ts : List Tg) (m : Ex) (st : Stmt) (h : chkP T X.N sc ts m st = true) : PS X st (tS G W fun E S => ((sem Fs Gs m).ev E S).bind fun v S1 => lift (v.dat.bind fun x => asgT (.seq ts) x E) S1) := by
  unfold chkP at h
  split at h
  · rename_i es kk pt v pos
    obtain ⟨h, h2, h3⟩ := and3 h
    obtain ⟨hh, h1⟩ := and2 h
    have hh : T.hot = false := by simpa using hh
    have pg : PG X (.Tuple es kk pt) (tTg G (.seq ts)) := pg_tg c.c.hK (c.c.calm hh) c.c.nd c.st (.seq ts) (.Tuple es kk pt) h2
    have sw : swapsWithSole [.Tuple es kk pt] v pos.line X.env = pure false := by cases v <;> rfl
    simp only [Bool.or_eq_true, decide_eq_true_eq] at h3
    rcases h3 with ((nt | h4) | h4) | h3
    · exact s_asgS (sokE m v c.c h1).ev pg sw (swap_no nt) rfl
    · exact s_asgS (sokE m v c.c h1).ev pg sw (swap4v h4) rfl
    · exact s_asgS (sokE m v c.c h1).ev pg sw (swapOffV (c.c.hsc ▸ h4)) rfl
    · have hsc := c.c.hsc
      match ts, h2, h3 with
      | [.nm i, .nm j], h2, h3 =>
        match m, h1, h3 with
        | .tup ms, h1, h3 =>
          match v, h1, h3, sw with
          | .Tuple vs k2 pt2, h1, h3, sw =>
            obtain ⟨hl, h3⟩ := and2 h3
            have hl := of_decide_eq_true hl
            match es, hl, h2, h3, sw with
            | [e1, e2], _, h2, h3, sw =>
              obtain ⟨g1, g2⟩ := and2 (show (chkT X.N sc (.nm i) e1 && chkTs X.N sc [.nm j] [e2]) = true from h2)
              obtain ⟨g2, _⟩ := and2 (show (chkT X.N sc (.nm j) e2 && chkTs X.N sc [] []) = true from g2)
              obtain ⟨x, px, rfl, hx⟩ := nm_of (i := i) g1
              obtain ⟨y, py, rfl, hy⟩ := nm_of (i := j) g2
              obtain ⟨s1, s2, s3, s4⟩ := swap2 (kt := kk) (pt := pt) (k2 := k2) (pt2 := pt2) c.kf (hsc ▸ h3)
              have ne : x ≠ y := by
                have q := h3
                unfold parOk at q
                simp only [Bool.and_eq_true, Bool.not_eq_true'] at q
                have q := q.1.1.1.1.2
                intro e
                rw [e, beq_self_eq_true] at q
                cases q
              match vs, s2, h1, s1, sw with
              | [a, b], _, h1, s1, sw =>
                have so := sokEs ms [a, b] c.c h1
                refine PS_imp (ps_par (c.c.calm hh) c.c.nd hx hy (fun e => ?_) s3 s4 so.pa s1 sw) (imp_par (ns := [i, j]) (Fs := Fs) par2)
                subst e
                rw [hx] at hy
                cases hy
                exact ne rfl
      | [.nm i, .nm j, .nm l], h2, h3 =>
        match m, h1, h3 with
        | .tup ms, h1, h3 =>
          match v, h1, h3, sw with
          | .Tuple vs k2 pt2, h1, h3, sw =>
            obtain ⟨hl, h3⟩ := and2 h3
            have hl := of_decide_eq_true hl
            match es, hl, h2, h3, sw with
            | [e1, e2, e3], _, h2, h3, sw =>
              obtain ⟨g1, g2⟩ := and2 (show (chkT X.N sc (.nm i) e1 && chkTs X.N sc [.nm j, .nm l] [e2, e3]) = true from h2)
              obtain ⟨g2, g3⟩ := and2 (show (chkT X.N sc (.nm j) e2 && chkTs X.N sc [.nm l] [e3]) = true from g2)
              obtain ⟨g3, _⟩ := and2 (show (chkT X.N sc (.nm l) e3 && chkTs X.N sc [] []) = true from g3)
              obtain ⟨x, px, rfl, hx⟩ := nm_of (i := i) g1
              obtain ⟨y, py, rfl, hy⟩ := nm_of (i := j) g2
              obtain ⟨z, pz, rfl, hz⟩ := nm_of (i := l) g3
              obtain ⟨s1, s2, s3, s4, s5⟩ := swap3 (kt := kk) (pt := pt) (k2 := k2) (pt2 := pt2) c.kf (hsc ▸ h3)
              have q := h3
              unfold parOk at q
              simp only [Bool.and_eq_true, Bool.not_eq_true'] at q
              have q1 := q.1.1.1.1.1.1.2
              have q2 := q.1.1.1.1.1.2
              have q3 := q.1.1.1.1.2
              have no : ∀ {u v : Str} {n n' : Nat}, (u == v) = false → X.N[n]? = some u → X.N[n']? = some v → n ≠ n' := fun hq h1 h2 e => by
                subst e
                rw [h1] at h2
                cases h2
                rw [beq_self_eq_true] at hq
                cases hq
              match vs, s2, h1, s1, sw with
              | [a, b, d], _, h1, s1, sw =>
                have so := sokEs ms [a, b, d] c.c h1
                exact PS_imp (ps_par3 (c.c.calm hh) c.c.nd hx hy hz (no q1 hx hy) (no q2 hx hz) (no q3 hy hz) s3 s4 s5 so.pa s1 sw) (imp_par (ns := [i, j, l]) (Fs := Fs) par3)
  · cases h
end
end Mi

set_option maxHeartbeats 4000000
/-! statements that look like the small language's do what that says -/
namespace Mi
open PySem PySem.Spec PyProof.Rows L2
theorem chkS_asgS (T : Tb) (N : List Str) (sc : Scope) (ts : List Tg) (e : Ex) (st : Stmt) : chkS T N sc (.asgS ts e) st = chkP T N sc ts e st := rfl
theorem semS_asgS (Fs : Fns) (Gs : List D) (n : Nat) (ts : List Tg) (e : Ex) : semS Fs Gs n (.asgS ts e) = fun E S => ((sem Fs Gs e).ev E S).bind fun v S1 => lift (v.dat.bind fun x => asgT (.seq ts) x E) S1 := rfl
theorem chkB_cons (T : Tb) (N : List Str) (sc : Scope) (s : Sx) (r : List Sx) (ss : List Stmt) : chkB T N sc (s :: r) ss = if isFrz s then chkB T N sc r ss else match ss with
    | st :: ss => chkS T N sc s st && chkB T N sc r ss
    | [] => false := by cases ss <;> rfl
theorem asgIx {G : Gb} {T : Tb} {Fs : Fns} {Gs : List D} {k : Nat} {X : Cx} {W : WX} {sc : Scope} (c : Cst G W X T Fs Gs sc k) (Wn : Nat) (o i e : Ex) (st : Stmt) (h : chkI T X.N sc o i e st = true) : PS X st (tS G W (semS Fs Gs Wn (.setix o i e))) := by
  unfold chkI at h
  split at h
  · rename_i o' i' _ v _
    obtain ⟨h, h3⟩ := and2 h
    obtain ⟨h0, h1, h2⟩ := and3 h
    exact PS_imp (ps_asg (sokE e v c.c h3).ev (pg_sub (sokE o o' c.c h1).ev (sokE i i' c.c h2).ev (set_D (by have := c.c.un; omega)) (by intro _; cases i' <;> first | rfl | cases h0)) (by cases v <;> rfl) (by cases v <;> rfl) rfl) imp_set
  · cases h
theorem sokR {G : Gb} {T : Tb} {Fs : Fns} {Gs : List D} {k : Nat} {X : Cx} {W : WX} {sc : Scope} {Wn : Nat} (c : Cst G W X T Fs Gs sc k) (i : Nat) (es : List Ex) (st : Stmt) (h : chkR T X.N sc i es st = true) : PS X st (tS G W (semS Fs Gs Wn (.raise i es))) := by
  unfold chkR at h
  split at h
  · obtain ⟨h, h5⟩ := and2 h
    obtain ⟨h, h4⟩ := and2 h
    obtain ⟨h1, h2, h3⟩ := and3 h
    have hh : T.hot = false := by simpa using h1
    obtain ⟨g1, g2⟩ := c.c.gl h3
    obtain ⟨k1, nf, fI, S⟩ := c.c.ct.sup i h4
    have s := sokEs es _ c.c h5
    exact s_raise (c.c.calm hh) c.c.tk (c.c.hK ▸ S) nf k1 (c.c.room hh) g1 (c.c.cls i _ (beq_iff_eq.mp h2)) g2 s.pa (s.head ⟨0, 0, 0, 0⟩ X.env).1
  · cases h
theorem sokL {G : Gb} {T : Tb} {Fs : Fns} {Gs : List D} {k : Nat} {X : Cx} {W : WX} {sc : Scope} {Wn : Nat} (c : Cst G W X T Fs Gs sc k) (i : Nat) (e1 : Ex) (j : Nat) (e2 : Ex) (st : Stmt) (h : chkL T X.N sc i e1 j e2 st = true) : PS X st (tS G W (semS Fs Gs Wn (.asgP i e1 j e2))) := by
  unfold chkL at h
  split at h
  · rename_i x px y py _ _ a b _ _ _
    obtain ⟨h, h6⟩ := and2 h
    obtain ⟨h, h5⟩ := and2 h
    obtain ⟨h, h4⟩ := and2 h
    obtain ⟨h1, h2, h3⟩ := and3 h
    have hh : T.hot = false := by simpa using h1
    have hx := beq_iff_eq.mp h2
    have hy := beq_iff_eq.mp h3
    have hsc := c.c.hsc
    obtain ⟨s1, s2, s3, s4⟩ := swap2 (kt := _) (pt := _) (k2 := _) (pt2 := _) c.kf (hsc ▸ h4)
    have ns : notStar a = true ∧ notStar b = true := by
      have q := h4
      unfold parOk at q
      simp only [Bool.and_eq_true, Bool.not_eq_true', List.all_cons] at q
      exact ⟨q.1.1.2.1, q.1.1.2.2.1⟩
    have ne : x ≠ y := by
      have q := h4
      unfold parOk at q
      simp only [Bool.and_eq_true, Bool.not_eq_true'] at q
      have q := q.1.1.1.1.2
      intro e
      rw [e, beq_self_eq_true] at q
      cases q
    refine s_asgP (c.c.calm hh) c.c.nd hx hy (fun e => ?_) s3 s4 (sokE e1 a c.c h5).ev (sokE e2 b c.c h6).ev (star_ok ns.1 _ _) (star_ok ns.2 _ _) s1 rfl
    subst e
    rw [hx] at hy
    cases hy
    exact ne rfl
  · cases h
theorem xs_ok {G : Gb} {T : Tb} {Fs : Fns} {Gs : List D} {k : Nat} {X : Cx} {W : WX} {sc : Scope} (c : Cst G W X T Fs Gs sc k) : ∀ (ts : List (Ex × Ex)) (es : List Expr), chkXs T X.N sc ts es = true → PGs X es (gX G W (semPs Fs Gs ts)) ∧ es.length = ts.length ∧ (assignEach es X.env).length = es.length ∧ (assignEach es X.env).findIdx? (·.1) = none ∧ (es = [] ∨ offLoc sc es = true)
  | [], es, h => by
    cases es with
    | nil => exact ⟨PGs_imp pgs_nil fun vs σ H Q h => h, rfl, rfl, rfl, .inl rfl⟩
    | cons _ _ => cases h
  | (o, i) :: ts, es, h => by
    cases es with
    | nil => cases h
    | cons e r =>
      cases e with
      | Subscript o' i' p =>
        obtain ⟨h, h4⟩ := and2 h
        obtain ⟨h1, h2, h3⟩ := and3 h
        obtain ⟨q1, q2, q3, q4, _⟩ := xs_ok c ts r h4
        have one : assignEach (.Subscript o' i' p :: r) X.env = (false, assign (.Subscript o' i' p) X.env) :: assignEach r X.env := rfl
        refine ⟨pgs_cons (pg_sub (sokE o o' c.c h2).ev (sokE i i' c.c h3).ev (set_D (by have := c.c.un; omega)) (by intro _; cases i' <;> first | rfl | cases h1)) q1 (by rw [one]; rfl), by rw [List.length_cons, List.length_cons, q2], by rw [one, List.length_cons, List.length_cons, q3], ?_, .inr rfl⟩
        rw [one, List.findIdx?_cons, q4]
        rfl
      | _ => cases h
theorem sem_len (Fs : Fns) (Gs : List D) : ∀ ts : List (Ex × Ex), (semPs Fs Gs ts).length = ts.length
  | [] => rfl
  | (o, i) :: r => congrArg (· + 1) (sem_len Fs Gs r)
theorem sokX {G : Gb} {T : Tb} {Fs : Fns} {Gs : List D} {k : Nat} {X : Cx} {W : WX} {sc : Scope} {Wn : Nat} (c : Cst G W X T Fs Gs sc k) (ts : List (Ex × Ex)) (e : Ex) (st : Stmt) (h : chkX T X.N sc ts e st = true) : PS X st (tS G W (semS Fs Gs Wn (.asgX ts e))) := by
  unfold chkX at h
  split at h
  · rename_i es _ _ v pos
    obtain ⟨h, h4⟩ := and2 h
    obtain ⟨h1, h2, h3⟩ := and3 h
    have hh : T.hot = false := by simpa using h1
    obtain ⟨q1, q2, q3, q4, q5⟩ := xs_ok c ts es h3
    have q5 : offLoc sc es = true := q5.resolve_left fun z => by rw [z] at h2; cases h2
    exact s_asgX c.c.hK (c.c.calm hh) (sokE e v c.c h4).ev q1 q2 q3 q4 (by cases v <;> rfl) (swapOffV (c.c.hsc ▸ q5))
  · cases h
theorem sokAug {G : Gb} {T : Tb} {Fs : Fns} {Gs : List D} {k : Nat} {X : Cx} {W : WX} {sc : Scope} {Wn : Nat} (c : Cst G W X T Fs Gs sc k) (i : Nat) (op : Operator) (e : Ex) (st : Stmt) (h : chkAug T X.N sc i op e st = true) : PS X st (tS G W (semS Fs Gs Wn (.aug i op e))) := by
  unfold chkAug at h
  split at h
  · obtain ⟨h, h5⟩ := and2 h
    obtain ⟨h, h4⟩ := and2 h
    obtain ⟨h1, h2, h3⟩ := and3 h
    have e := of_decide_eq_true h1
    subst e
    obtain ⟨s1, s2⟩ := c.st _ h4
    exact s_aug (by simpa using h2) c.c.nd (beq_iff_eq.mp h3) s1 s2 (sokE e _ c.c h5).ev
  · cases h
theorem Cst.tr {G : Gb} {T : Tb} {Fs : Fns} {Gs : List D} {k : Nat} {X : Cx} {W W' : WX} {sc : Scope} (c : Cst G W X T Fs Gs sc k) (hh : T.hot = false) {pn : List (Addr × Obj)} {xe : Value → Shared → Prop} (tk : Takes (X.tr pn xe) W') (hp : PassesOwn (model X.prog X.w) X.A X.env xe) : Cst G W' (X.tr pn xe) T Fs Gs sc k :=
  ⟨⟨c.c.hK, c.c.nd, c.c.hsc, c.c.calm, c.c.room, c.c.rmh, c.c.grd, tk, c.c.fns, c.c.cold, c.c.hots, c.c.cpin, fun p e => absurd (e.symm.trans (c.c.cpin hh)) (by simp), c.c.gls, c.c.cls, c.c.blt, c.c.ct⟩, c.st, c.kf, hp, c.hs, c.hf⟩
mutual
theorem sokS {G : Gb} {T : Tb} {Fs : Fns} {Gs : List D} {k : Nat} {Wn : Nat} {sc : Scope} : ∀ (s : Sx) {X : Cx} {W : WX} (c : Cst G W X T Fs Gs sc k) (st : Stmt), isFrz s = false → chkS T X.N sc s st = true → PS X st (tS G W (semS Fs Gs Wn s))
  | .asg i e, X, W, c, st, _, h => PS_imp (asgName c i e st h) imp_asg
  | .asgN i e, X, W, c, st, _, h => PS_imp (asgName c i e st h) imp_asgN
  | .asgS ts e, X, W, c, st, _, h => by
    rw [chkS_asgS] at h
    rw [semS_asgS]
    exact asgPar c ts e st h
  | .setix o i e, X, W, c, st, _, h => asgIx c Wn o i e st h
  | .ex e, X, W, c, st, _, h => by
    cases st with
    | Expr e' _ =>
      obtain ⟨h1, h2⟩ := and2 h
      exact s_ex (sokE e e' c.c h2).ev (sw_false h1 _ _ _)
    | _ => cases h
  | .ret e, X, W, c, st, _, h => by
    cases st with
    | Return v _ =>
      cases v with
      | some e' => exact s_ret (sokE e e' c.c h).ev
      | none => cases h
    | _ => cases h
  | .retN, X, W, c, st, _, h => by
    cases st with
    | Return v _ =>
      cases v with
      | none => exact s_retN
      | some e' => cases h
    | _ => cases h
  | .iff t a b, X, W, c, st, _, h => by
    cases st with
    | If t' a' b' _ =>
      obtain ⟨h1, h2, h3⟩ := and3 h
      exact s_iff (sokE t t' c.c h1).ts (sokB a c a' h2) (sokB b c b' h3)
    | _ => cases h
  | .whl t b, X, W, c, st, _, h => by
    cases st with
    | While t' b' o _ =>
      cases o with
      | nil =>
        obtain ⟨h1, h2⟩ := and2 h
        exact s_whl c.hp (sokE t t' c.c h1).ts (sokB b c b' h2)
      | cons _ _ => cases h
    | _ => cases h
  | .for tg it b, X, W, c, st, _, h => by
    cases st with
    | For tg' it' b' o _ =>
      cases o with
      | nil =>
        obtain ⟨h, h5⟩ := and2 h
        obtain ⟨h, h4⟩ := and2 h
        obtain ⟨h, h2, h3⟩ := and3 h
        obtain ⟨hh, h1⟩ := and2 h
        have hh : T.hot = false := by simpa using hh
        refine s_for c.hp (c.c.calm hh) ((sokE it it' c.c h4).it tg' fun q => ?_) (pg_tg c.c.hK (c.c.calm hh) c.c.nd c.st tg tg' h1) (sokB b c b' h5) (fold_ok h2 _)
        rcases Bool.or_eq_true_iff.mp h3 with e | e
        · rw [q] at e; cases e
        · exact e
      | cons _ _ => cases h
    | _ => cases h
  | .brk, X, W, c, st, _, h => by
    cases st with
    | Break _ => exact s_brk
    | _ => cases h
  | .cont, X, W, c, st, _, h => by
    cases st with
    | Continue _ => exact s_cont
    | _ => cases h
  | .pass, X, W, c, st, _, h => by
    cases st with
    | Pass _ => exact s_pass
    | _ => cases h
  | .raise i es, X, W, c, st, _, h => sokR c i es st h
  | .tryR b i subs d, X, W, c, st, _, h => by
    have h : (match tryParts st with
      | some (body, x, none, suite) => !T.hot && T.cls[i]? == some x && glo sc x && (T.subs.lookup i == some subs) && (kV d).isSome && retConst suite == kC d && (retConst suite).isSome && chkB T X.N sc b body
      | _ => false) = true := h
    cases q : tryParts st with
    | none => rw [q] at h; cases h
    | some y =>
      obtain ⟨body, x, n, suite⟩ := y
      rw [q] at h
      cases n with
      | some n => cases h
      | none =>
        obtain ⟨h, h8⟩ := and2 h
        obtain ⟨h, h7⟩ := and2 h
        obtain ⟨h, h6⟩ := and2 h
        obtain ⟨h, h5⟩ := and2 h
        obtain ⟨h, h4⟩ := and2 h
        obtain ⟨h1, h2, h3⟩ := and3 h
        have hh : T.hot = false := by simpa using h1
        obtain ⟨p, q', r, rfl⟩ := tryParts_some q
        obtain ⟨v, hv⟩ := Option.isSome_iff_exists.mp h5
        obtain ⟨cc, hcc⟩ := Option.isSome_iff_exists.mp h7
        obtain ⟨kk, kp, rp, rfl⟩ := retConst_some hcc
        obtain ⟨g1, g2⟩ := c.c.gl h3
        exact s_tryR c.hs c.hf ⟨g1, g2, .inl (c.c.cls i x (beq_iff_eq.mp h2))⟩ c.c.tk c.c.hK (fun W' pn xe tk hp => sokB b (c.tr hh tk hp) body h8) (fun k hk => c.c.ct.exm i subs k (beq_iff_eq.mp h4) hk) hv ((beq_iff_eq.mp h6).symm.trans hcc)
  | .tryF b i subs j f, X, W, c, st, _, h => by
    have h : (match tryParts st with
      | some (body, x, some n, suite) => (match retCall suite with
        | some (fx, n2) => !T.hot && T.cls[i]? == some x && glo sc x && (T.subs.lookup i == some subs) && X.N[j]? == some n && locN sc n && vis sc n && n2 == n && T.fns[f]? == some fx && glo sc fx && T.hotf.contains f && chkB T X.N sc b body
        | none => false)
      | _ => false) = true := h
    cases q : tryParts st with
    | none => rw [q] at h; cases h
    | some y =>
      obtain ⟨body, x, n, suite⟩ := y
      rw [q] at h
      cases n with
      | none => cases h
      | some n =>
        cases q2 : retCall suite with
        | none =>
          have h : (match retCall suite with
            | some (fx, n2) => !T.hot && T.cls[i]? == some x && glo sc x && (T.subs.lookup i == some subs) && X.N[j]? == some n && locN sc n && vis sc n && n2 == n && T.fns[f]? == some fx && glo sc fx && T.hotf.contains f && chkB T X.N sc b body
            | none => false) = true := h
          rw [q2] at h; cases h
        | some y =>
          obtain ⟨fx, n2⟩ := y
          have h : (match retCall suite with
            | some (fx, n2) => !T.hot && T.cls[i]? == some x && glo sc x && (T.subs.lookup i == some subs) && X.N[j]? == some n && locN sc n && vis sc n && n2 == n && T.fns[f]? == some fx && glo sc fx && T.hotf.contains f && chkB T X.N sc b body
            | none => false) = true := h
          rw [q2] at h
          obtain ⟨h, h12⟩ := and2 h
          obtain ⟨h, h11⟩ := and2 h
          obtain ⟨h, h10⟩ := and2 h
          obtain ⟨h, h9⟩ := and2 h
          obtain ⟨h, h8⟩ := and2 h
          obtain ⟨h, h7⟩ := and2 h
          obtain ⟨h, h6⟩ := and2 h
          obtain ⟨h, h5⟩ := and2 h
          obtain ⟨h, h4⟩ := and2 h
          obtain ⟨h1, h2, h3⟩ := and3 h
          have hh : T.hot = false := by simpa using h1
          obtain ⟨p, q', r, rfl⟩ := tryParts_some q
          obtain ⟨z1, z2, z3, z4, rfl⟩ := retCall_some q2
          have e := beq_iff_eq.mp h8
          subst e
          obtain ⟨g1, g2⟩ := c.c.gl h3
          obtain ⟨f1, f2⟩ := c.c.gl h10
          obtain ⟨v1, v2, v3⟩ := c.c.vi h7
          obtain ⟨k1, fd, ps, F, B⟩ := c.c.hots hh f h11
          have hl : X.env.kindOf n2 = some .local := by
            show X.env.scope.names.lookup n2 = _
            rw [c.c.hsc]
            exact of_decide_eq_true h6
          exact s_tryF c.hs c.hf c.c.nd (beq_iff_eq.mp h5) hl v2 v3 ⟨g1, g2, .inl (c.c.cls i x (beq_iff_eq.mp h2))⟩ c.c.tk c.c.hK F c.c.rmh c.c.grd B f1 (c.c.fns f fx (beq_iff_eq.mp h9)).1 k1 f2 (fun W' pn xe tk hp => sokB b (c.tr hh tk hp) body h12) (fun k hk => c.c.ct.exm i subs k (beq_iff_eq.mp h4) hk)
  | .asgP i e1 j e2, X, W, c, st, _, h => sokL c i e1 j e2 st h
  | .asgX ts e, X, W, c, st, _, h => sokX c ts e st h
  | .aug i op e, X, W, c, st, _, h => sokAug c i op e st h
  | .frz _, X, W, c, st, n, h => by cases n
theorem sokB {G : Gb} {T : Tb} {Fs : Fns} {Gs : List D} {k : Nat} {Wn : Nat} {sc : Scope} : ∀ (b : List Sx) {X : Cx} {W : WX} (c : Cst G W X T Fs Gs sc k) (ss : List Stmt), chkB T X.N sc b ss = true → PSs X ss (tS G W (semB Fs Gs Wn b))
  | [], X, W, c, ss, h => by
    cases ss with
    | nil => exact b_nil (Fs := Fs) (Gs := Gs) (n := Wn)
    | cons _ _ => cases h
  | s :: r, X, W, c, ss, h => by
    by_cases f : isFrz s = true
    · cases s with
      | frz i => exact b_frz (sokB r c ss h)
      | _ => cases f
    · have f' : isFrz s = false := by simpa using f
      rw [chkB_cons, if_neg f] at h
      cases ss with
      | nil => cases h
      | cons st ss =>
        obtain ⟨h1, h2⟩ := and2 h
        exact b_cons (sokS s c st f' h1) (sokB r c ss h2)
end
end Mi

set_option maxHeartbeats 4000000
/-! defs: what they hand back; the whole text by levels -/
namespace Mi
open PySem PySem.Spec PyProof.Rows L2
section
variable {G : Gb} {W : WX} {M : Addr → Prop} {σ : L2.St} {ρ ρ' : List Addr} {S S' : Store} {H H' : Hp}
/-- what came within a def is forgotten -/
theorem Far.back {M' : Addr → Prop} (t : Far ρ S H ρ' S' H') (sl : ρ.length = S.length) (sa : ∀ (l : Nat) a, ρ[l]? = some a → H a ≠ none) (s' : Sim G M H' ρ' S') (far : ∀ a, M' a → ∀ (l : Nat), ρ[l]? ≠ some a) (up : ∀ a, M' a → Av M ρ' S' a) :
    Step ρ S H (S'.take S.length) H' ∧ Sim G M' H' ρ (S'.take S.length) ∧ (∀ a, Av M' ρ (S'.take S.length) a → Av M ρ' S' a) ∧ S.length ≤ S'.length := by
  have hl : S.length ≤ S'.length := by
    rw [← sl, ← s'.len]
    apply Nat.le_of_not_lt
    intro z
    have h1 : ρ[ρ'.length]? = some ρ[ρ'.length] := List.getElem?_eq_getElem z
    have h2 := (List.getElem?_eq_some_iff.mp (t.pre _ _ h1)).1
    omega
  have get : ∀ (l : Nat) a c, ρ[l]? = some a → (S'.take S.length)[l]? = some c → ρ'[l]? = some a ∧ S'[l]? = some c := fun l a c h1 h2 => by
    have hlt : l < S.length := by rw [← sl]; exact (List.getElem?_eq_some_iff.mp h1).1
    rw [List.getElem?_take_of_lt hlt] at h2
    exact ⟨t.pre l a h1, h2⟩
  have up1 : ∀ l a, At ρ (S'.take S.length) l a → At ρ' S' l a := fun l a ⟨h1, c, h2, h3⟩ => let ⟨g1, g2⟩ := get l a c h1 h2; ⟨g1, c, g2, h3⟩
  have live : ∀ a, Live ρ (S'.take S.length) a → Live ρ' S' a := fun a ⟨l, h⟩ => ⟨l, up1 l a h⟩
  have av : ∀ a, Av M' ρ (S'.take S.length) a → Av M ρ' S' a := fun a z => z.elim (fun z => .inl (live a z)) (up a)
  refine ⟨⟨t.keep, fun a z => ?_⟩, ⟨by rw [List.length_take, sl]; omega, fun l k a h1 h2 => s'.uni l k a (up1 l a h1) (up1 k a h2), fun l a c h1 h2 => ?_, fun l a h => s'.all l a (t.pre l a h), fun a h => s'.fit a (up a h), fun l a h1 h2 => far a h2 l h1⟩, av, hl⟩
  · obtain ⟨l, h1, _⟩ := id z
    rcases t.live a (live a z) with q | q
    · exact q
    · exact absurd q (sa l a h1)
  · obtain ⟨g1, g2⟩ := get l a c h1 h2
    exact (s'.cell l a c g1 g2).less av
theorem Far.back0 (t : Far ρ S H ρ' S' H') (s : Sim G M H ρ S) (s' : Sim G M H' ρ' S') : Step ρ S H (S'.take S.length) H' ∧ Sim G M H' ρ (S'.take S.length) ∧ (∀ a, Av M ρ (S'.take S.length) a → Av M ρ' S' a) ∧ S.length ≤ S'.length :=
  t.back s.len s.all s' (fun a h l e => s.ap l a e h) fun a h => .inr h
/-- a cell of its own that is handed back -/
theorem Far.out (t : Far ρ S H ρ' S' H') (s : Sim G M H ρ S) (s' : Sim G M H' ρ' S') {l : Nat} {p : Addr} {c : Cell} (hl : S.length ≤ l) (hp : ρ'[l]? = some p) (hc : S'[l]? = some c) (lv : c.lives) : Out G M H ρ (S'.take S.length) (.ref p) H' (.own c) := by
  have new : H p = none := t.new l p (by rw [s.len]; exact hl) hp
  have no : ∀ j : Nat, ρ[j]? ≠ some p := fun j e => s.all j p e new
  have lp : Live ρ' S' p := ⟨l, hp, c, hc, lv⟩
  have mp : ¬ M p := s'.ap l p hp
  obtain ⟨_, s2, av, _⟩ := t.back (M' := And1 M p) s.len s.all s' (fun a h j e => h.elim (fun h => s.ap j a e h) fun q => no j (q ▸ e)) fun a h => h.elim .inr fun e => .inl (e ▸ lp)
  refine ⟨p, rfl, new, ?_, no, lv, s2, (s'.cell l p c hp hc).less av⟩
  rintro (⟨j, h1, c', h2, h3⟩ | h)
  · exact no j h1
  · exact mp h
theorem fin_ok {D : Ends} {Q : VK} {E : XK} {r : R (Fl × Env)} (s : Sim G M H ρ S) (hnx : ∀ σ H', Q .non H' → D.nx σ H') (hrt : ∀ v H', Q v H' → D.rt v H')
    (g : Got G (fun cls d _ H => E cls d H) M σ ρ S H (fin S.length r) fun x S' => ∀ v H', Step ρ S H S' H' → Out G M H ρ S' v H' x → Q v H') : GotS G (fun cls d _ H => E cls d H) M ρ S H D r := by
  cases r with
  | no => exact g.elim
  | ex c a S' =>
    intro ρ' σ' cls d H' t s' e
    obtain ⟨t1, s1, av, _⟩ := t.back0 s s'
    obtain ⟨e1, hc, dx, v, e2, e3, nd, e4⟩ := e
    exact g cls d H' t1 s1 ⟨e1, hc, dx, v, e2, e3, fun z => nd (av _ z), e4.less av⟩
  | ok p S' =>
    obtain ⟨f, E'⟩ := p
    intro ρ' σ' H' t
    cases f with
    | nx =>
      intro hE s'
      obtain ⟨t1, s1, av, _⟩ := t.back0 s s'
      exact hnx _ _ (g .non H' t1 ⟨s1, .d .non⟩)
    | bk => exact g.elim
    | ct => exact g.elim
    | rt x =>
      intro v o
      refine hrt _ _ ?_
      have s' := o.sim
      obtain ⟨t1, s1, av, hl⟩ := t.back0 s s'
      cases x with
      | d x => exact g v H' t1 ⟨s1, .d (o.d.less av)⟩
      | err c a =>
        obtain ⟨_, r⟩ := o
        cases r with
        | err hp hc hd hf hn hH nd h => exact g _ H' t1 ⟨s1, .err hp hc hd hf hn hH (fun z => nd (av _ z)) (h.less av)⟩
      | own c =>
        obtain ⟨p, rfl, hp, np, hn, lv, s2, hc⟩ := o
        have g : ∀ v H', Step ρ S H (S'.take S.length) H' → Out G M H ρ (S'.take S.length) v H' (.own c) → Q v H' := g
        refine g _ H' t1 ⟨p, rfl, hp, fun z => np (av p z), fun l e => hn l (t.pre l p e), lv, ?_, ?_⟩
        · exact (t.back (M' := And1 M p) s.len s.all s2 (fun a h l e => h.elim (s.ap l a e) fun q => hn l (t.pre l p (q ▸ e))) fun a h => .inr h).2.1
        · refine hc.less fun a z => ?_
          rcases av_and.mp z with z | z
          · exact av_and.mpr (.inl (av a z))
          · exact av_and.mpr (.inr z)
      | ref l =>
        obtain ⟨_, r⟩ := o
        cases r with
        | ref h =>
          rename_i a
          have g : Got G (fun cls d _ H => E cls d H) M σ ρ S H (if l < S.length then (.ok (.ref l) (S'.take S.length) : R Val) else match S'[l]? with
            | some (.lst xs) => .ok (.own (.lst xs)) (S'.take S.length)
            | some (.dct ks vs) => .ok (.own (.dct ks vs)) (S'.take S.length)
            | _ => .no) _ := g
          by_cases z : l < S.length
          · rw [if_pos z] at g
            have hr : ρ[l]? = some a := by
              have zl : l < ρ.length := by rw [s.len]; exact z
              have h1 : ρ[l]? = some ρ[l] := List.getElem?_eq_getElem zl
              have h2 := t.pre _ _ h1
              rw [h] at h2
              cases h2
              exact h1
            exact g _ H' t1 ⟨s1, .ref hr⟩
          · rw [if_neg z] at g
            cases q : S'[l]? with
            | none => rw [q] at g; exact g.elim
            | some c =>
              rw [q] at g
              cases c with
              | lst xs => exact g _ H' t1 (t.out s s' (by omega) h q trivial)
              | dct ks vs => exact g _ H' t1 (t.out s s' (by omega) h q trivial)
              | gone => exact g.elim
end
/-- how the slots stand at the entry -/
theorem env_start {G : Gb} {H : Hp} {N : Addr → Prop} {ρ : List Addr} {NN : List Str} {vs : List V} {xs : List Val} {n : Nat} (r : Paired (VR G H N ρ) vs xs) (hn : NN.length = n) : EnvR G H N ρ (L2.start NN vs) (xs.map some ++ List.replicate (n - xs.length) none) := by
  have hl : vs.length = xs.length := Paired.length r
  have get : ∀ {vs : List V} {xs : List Val}, Paired (VR G H N ρ) vs xs → ∀ (i : Nat) x, xs[i]? = some x → ∃ v, vs[i]? = some v ∧ VR G H N ρ v x := by
    intro vs xs r
    induction r with
    | nil => intro i x h; simp at h
    | cons h r ih =>
      intro i x e
      cases i with
      | zero => simp at e; subst e; exact ⟨_, rfl, h⟩
      | succ i => obtain ⟨v, h1, h2⟩ := ih i x (by simpa using e); exact ⟨v, by simpa using h1, h2⟩
  refine ⟨by unfold L2.start; simp [hl, hn], fun i x e => ?_⟩
  by_cases hi : i < xs.length
  · rw [List.getElem?_append_left (by simpa using hi)] at e
    obtain ⟨v, h1, h2⟩ := get r i x (by simpa using e)
    refine ⟨v, ?_, h2⟩
    unfold L2.start
    rw [List.getElem?_append_left (by simp; omega)]
    simp [h1]
  · rw [List.getElem?_append_right (by simpa using Nat.le_of_not_lt hi), List.getElem?_replicate] at e
    split at e <;> cases e
/-- a def of the text -/
structure Ok1 (G : Gb) (T : Tb) (f : Nat) (fd : Fd) (fdat : FuncData) (ps : List Str) : Prop where
  ex : ∃ (x qual : Str) (st : Stmt) (N : List Str), Fun G.K x qual st (G.adr f) fdat ∧ FnScope N ps (defScope st) ∧ ps.length = fd.np ∧ N.length = fd.ns ∧ chkB { T with hot := fd.hot } N (defScope st) fd.body (defBody st) = true
  bi : Binds G.K fdat ps []
/-- the text -/
structure Text (G : Gb) (P : Program) (T : Tb) (mg : Str → Option Value) (fds : List Fd) (Gs : List D) : Prop where
  def_ : ∀ (f : Nat) (fd : Fd), fds[f]? = some fd → ∃ fdat ps, Ok1 G T f fd fdat ps
  fns : ∀ (f : Nat) (x : Str), T.fns[f]? = some x → mg x = some (.ref (G.adr f)) ∧ f < fds.length
  keep : ∀ f, f < fds.length → PySem.W.keepIn G.K (.ref (G.adr f)) = true
  nf : G.nfn = fds.length
  hotf : ∀ f, T.hotf.contains f = true → ∃ fd, fds[f]? = some fd ∧ fd.hot = true
  pin : G.pin = none
  gls : ∀ (g : Nat) (x : Str), T.gls[g]? = some x → ∃ d v u, Gs[g]? = some d ∧ (∀ H N, DR G H N v d) ∧ mg x = some u ∧ RelV v u
  cls : ∀ (c : Nat) (x : Str), T.cls[c]? = some x → mg x = some (.ref (G.cad c))
  blt : ∀ x, T.blt.contains x = true → mg x = none
  ct : ClsT G P T
theorem isErr1_some {xs : List Val} (h : isErr1 xs = true) : ∃ k a, xs = [.err k a] := by
  unfold isErr1 at h
  split at h
  · exact ⟨_, _, rfl⟩
  · cases h
theorem levels {G : Gb} {T : Tb} {P : Program} {w : World} {mg : Str → Option Value} {base : Heap} {fds : List Fd} {Gs : List D} {Wn : Nat} (X : Text G P T mg fds Gs) :
    ∀ n : Nat, (∀ (f : Nat) (fd : Fd) (fdat : FuncData) (ps : List Str), fds[f]? = some fd → Ok1 G T f fd fdat ps → FnG P w G.K mg base n (G.adr f) fdat ps (spM G (callF fds Gs Wn n f))) ∧
      ∀ (f : Nat) (fd : Fd) (fdat : FuncData) (ps : List Str), fds[f]? = some fd → fd.hot = true → Ok1 G T f fd fdat ps → FnX P w G.K mg base n (G.adr f) fdat ps (fun p => spM { G with pin := some p } (callF fds Gs Wn n f)) := by
  intro n
  induction n with
  | zero => exact ⟨fun f fd fdat ps hf O => ⟨fun vs H Q E ⟨M, ρ, S, xs, s, r, g⟩ => g.elim, fun A outer s H args us vs Q E hr hg e0 hb r ⟨M, ρ, S, xs, sm, r', g⟩ => g.elim⟩,
      fun f fd fdat ps hf _ O => ⟨fun p vs H Q E ⟨M, ρ, S, xs, s, r, g⟩ => g.elim, fun A outer s H args us vs Q p hr hg hpin e0 hb r ⟨M, ρ, S, xs, sm, r', g⟩ => g.elim⟩⟩
  | succ n ih =>
    have run : ∀ (f : Nat) (fd : Fd), fds[f]? = some fd → ∀ (xs : List Val) (S : Store), callF fds Gs Wn (n + 1) f xs S = if (fd.hot == isErr1 xs) = true then runF (callF fds Gs Wn n) Gs Wn fd xs S else .no := fun f fd hf xs S => by
      show (match fds[f]? with
        | some fd => if (fd.hot == isErr1 xs) = true then runF (callF fds Gs Wn n) Gs Wn fd xs S else .no
        | none => .no) = _
      rw [hf]
    have run2 : ∀ (f : Nat) (fd : Fd), fds[f]? = some fd → ∀ (xs : List Val) (S : Store), callF fds Gs Wn (n + 1) f xs S ≠ .no → xs.length = fd.np ∧ fd.hot = isErr1 xs ∧ callF fds Gs Wn (n + 1) f xs S = fin S.length (semB (callF fds Gs Wn n) Gs Wn fd.body (xs.map some ++ List.replicate (fd.ns - xs.length) none) S) := fun f fd hf xs S h => by
      rw [run f fd hf] at h
      by_cases z : (fd.hot == isErr1 xs) = true
      · rw [if_pos z] at h
        unfold runF at h
        by_cases z2 : xs.length = fd.np
        · refine ⟨z2, beq_iff_eq.mp z, ?_⟩
          rw [run f fd hf, if_pos z]
          unfold runF
          rw [if_pos z2]
        · rw [if_neg z2] at h; exact absurd rfl h
      · rw [if_neg z] at h; exact absurd rfl h
    have cold : ∀ f, f < G.nfn → PySem.W.keepIn G.K (.ref (G.adr f)) = true ∧ ∃ fd ps, FnG P w G.K mg base n (G.adr f) fd ps (spM G (callF fds Gs Wn n f)) ∧ Binds G.K fd ps [] := fun f hf => by
      rw [X.nf] at hf
      obtain ⟨fdat', ps', O'⟩ := X.def_ f _ (List.getElem?_eq_getElem hf)
      exact ⟨X.keep f hf, fdat', ps', ih.1 f _ fdat' ps' (List.getElem?_eq_getElem hf) O', O'.bi⟩
    have hots : ∀ f, T.hotf.contains f = true → PySem.W.keepIn G.K (.ref (G.adr f)) = true ∧ ∃ fd ps, FnX P w G.K mg base n (G.adr f) fd ps (fun p => spM { G with pin := some p } (callF fds Gs Wn n f)) ∧ Binds G.K fd ps [] := fun f hf => by
      obtain ⟨fd, e, hh⟩ := X.hotf f hf
      obtain ⟨fdat', ps', O'⟩ := X.def_ f _ e
      exact ⟨X.keep f (List.getElem?_eq_some_iff.mp e).1, fdat', ps', ih.2 f _ fdat' ps' e hh O', O'.bi⟩
    refine ⟨fun f fd fdat ps hf O => ?_, fun f fd fdat ps hf hot O => ?_⟩
    · obtain ⟨x, qual, st, N, F, S, hp, hN, hb⟩ := O.ex
      refine fn_g F S (fun vs H Q E ⟨M, ρ, S, xs, s, r, g⟩ => ?_) fun cdv A outer s H vs Q E hr hg ⟨M, ρ, S0, xs, sm, r, g⟩ => ?_
      · rw [Paired.length r, hp]
        exact (run2 f fd hf xs S fun e => by rw [e] at g; exact g.elim).1
      · obtain ⟨hl, hh, er⟩ := run2 f fd hf xs S0 fun e => by rw [e] at g; exact g.elim
        have hcold : fd.hot = false := by
          cases z : fd.hot with
          | false => rfl
          | true =>
            rw [z] at hh
            obtain ⟨k, a, rfl⟩ := isErr1_some hh.symm
            cases r with
            | cons r rr => cases r with
              | err hp => rw [X.pin] at hp; cases hp
        have c : Cst G (fun cls d _ H => E cls d H) (cxOf (L2.CX P w) P w G.K mg base N qual (defScope st) (G.adr f) cdv A outer s H E) { T with hot := fd.hot } (callF fds Gs Wn n) Gs (defScope st) n := by
          refine ⟨⟨rfl, S.nd, rfl, fun _ => rfl, fun _ => hr, L2H.roomH_of hr, hg, takes_of rfl rfl rfl rfl, fun f' x' e => ?_, fun _ => cold, fun _ => hots, fun _ => X.pin, fun p e => ?_, X.gls, X.cls, X.blt, ⟨X.ct.len, X.ct.fl, X.ct.kit, X.ct.exm, X.ct.kiv, X.ct.cx, X.ct.sup⟩⟩, fun y h => ⟨?_, .inl rfl⟩, S.kind, passes_of rfl, rfl, rfl⟩
          · obtain ⟨h1, h3⟩ := X.fns f' x' e
            exact ⟨h1, by rw [X.nf]; exact h3⟩
          · rw [X.pin] at e; cases e
          · have h := Bool.or_eq_true_iff.mp h
            rcases h with h | h
            · exact .inl (beq_iff_eq.mp h)
            · exact .inr (beq_iff_eq.mp h)
        refine ⟨_, sokB (Wn := Wn) fd.body c (defBody st) hb, M, ρ, xs.map some ++ List.replicate (fd.ns - xs.length) none, S0, env_start r hN, sm, ?_⟩
        refine fin_ok (Q := Q) (σ := []) sm (fun _ _ h => h) (fun _ _ h => h) ?_
        rw [er] at g
        exact g
    · obtain ⟨x, qual, st, N, F, S, hp, hN, hb⟩ := O.ex
      refine fn_x F S (fun p vs H Q E ⟨M, ρ, S, xs, s, r, g⟩ => ?_) fun cdv A outer s H vs Q p hr hg ⟨M, ρ, S0, xs, sm, r, g⟩ => ?_
      · rw [Paired.length r, hp]
        exact (run2 f fd hf xs S fun e => by rw [e] at g; exact g.elim).1
      · obtain ⟨hl, hh, er⟩ := run2 f fd hf xs S0 fun e => by rw [e] at g; exact g.elim
        have c : Cst { G with pin := some p } WN (L2H.cxH (L2.CX P w) P w G.K mg base N qual (defScope st) (G.adr f) cdv A outer s H (fun _ _ _ => False) p) { T with hot := fd.hot } (callF fds Gs Wn n) Gs (defScope st) n := by
          have no : ∀ {α : Prop}, fd.hot = false → α := fun e => absurd (hot.symm.trans e) (by decide)
          refine ⟨⟨rfl, S.nd, rfl, fun e => no e, fun e => no e, hr, hg, fun u s' ⟨_, _, _, _, _, _, _, _, _, _, _, _, _, _, _, _, w⟩ => w.elim, fun f' x' e => ?_, fun e => no e, fun e => no e, fun e => no e, fun q e => ?_, fun g' y e => ?_, X.cls, X.blt, ⟨X.ct.len, X.ct.fl, X.ct.kit, X.ct.exm, X.ct.kiv, X.ct.cx, X.ct.sup⟩⟩, fun y h => ⟨?_, .inl rfl⟩, S.kind, passes_of rfl, rfl, rfl⟩
          · obtain ⟨h1, h3⟩ := X.fns f' x' e
            exact ⟨h1, by show f' < G.nfn; rw [X.nf]; exact h3⟩
          · cases e; exact List.mem_cons_self
          · obtain ⟨d, v, u, h1, h2, h3⟩ := X.gls g' y e
            exact ⟨d, v, u, h1, fun H N => (h2 H N).pin d, h3⟩
          · have h := Bool.or_eq_true_iff.mp h
            rcases h with h | h
            · exact .inl (beq_iff_eq.mp h)
            · exact .inr (beq_iff_eq.mp h)
        refine ⟨_, sokB (Wn := Wn) fd.body c (defBody st) hb, M, ρ, xs.map some ++ List.replicate (fd.ns - xs.length) none, S0, env_start r hN, sm, ?_⟩
        refine fin_ok (Q := Q) (E := fun _ _ _ => False) (σ := []) sm (fun _ _ h => h) (fun _ _ h => h) ?_
        rw [er] at g
        exact g
end Mi

set_option maxHeartbeats 4000000
/-! the law's call -/
namespace Mi
open PySem PySem.Spec PyProof.Rows L2
def kInts (ns : List Int) : D := .klst (ns.map .int)
theorem drs_int {G : Gb} {H : Hp} {N : Addr → Prop} : ∀ ns : List Int, DRs G H N (ns.map V.int) (ns.map D.int)
  | [] => .nil
  | n :: ns => .cons (.int n) (drs_int ns)
/-- nothing is tracked but (it may be) the script -/
structure Bare (K : PySem.W.Frag) (a : Addr) (xs : List V) (o : Obj) (H : Hp) : Prop where
  all : ∀ b u, H b = some u → b = a ∧ u = .frz o (.lst xs) ∧ K.lookup a = none
  rl : ∀ N : Addr → Prop, ¬ N a → RL K H N a xs
theorem bare_of (K : PySem.W.Frag) (a : Addr) (xs : List V) (us : List Value) (hv : Vals xs us) (hz : xs.length ≤ sizeLine) (hk : ∀ o, K.lookup a = some o → o = { cls := .type "list", data := .seq us.toArray }) :
    ∃ H, Bare K a xs { cls := .type "list", data := .seq us.toArray } H := by
  cases e : K.lookup a with
  | some o =>
    have eo := hk o e
    refine ⟨fun _ => none, fun b u h => absurd (show (none : Option HO) = some u from h) (by simp), fun N n => .inr ⟨o, us.toArray, _, e, by rw [eo], by rw [eo], by rw [eo], ?_, by simpa using hv⟩⟩
    rw [List.size_toArray, ← hv.length]
    exact hz
  | none =>
    refine ⟨fun b => if b = a then some (.frz { cls := .type "list", data := .seq us.toArray } (.lst xs)) else none, fun b u h => ?_, fun N n => .inl ⟨.inr ⟨{ cls := .type "list", data := .seq us.toArray }, if_pos rfl⟩, n⟩⟩
    by_cases z : b = a
    · have q := (if_pos z).symm.trans h
      cases q
      exact ⟨z, rfl, e⟩
    · have q := (if_neg z).symm.trans h
      cases q
theorem call_law {G : Gb} {P : Program} {w : World} {mg mb : Str → Option Value} {k : Nat} {fa a : Addr} {fd : FuncData} {x : Str} {F : List Val → Store → R Val} {s₁ : Shared} {us : List Value} {ns : List Int}
    (KX : G.K.In s₁.heap) (hns : s₁.heap.Ns mainGlobals mg) (hb : s₁.heap.Ns builtinsNs mb) (hbb : ∀ y : Str, y ≠ "__name__" → mb y = bootBuiltins y) (hlim : s₁.heap.NoLimit) (hg : s₁.gens = #[])
    (ha : s₁.heap.get? a = some { cls := .type "list", data := .seq us.toArray }) (hi : IntsAre us ns) (hl : ns.length ≤ sizeLine) (hr : Room k callerA) (hgr : callerA.guards = some [])
    (FG : ∀ base : Heap, FnG P w G.K mg base k fa fd [x] (spM G F)) (hbind : ∀ (s : Shared) (u : Value), BindsTo s fd ⟨[u], []⟩ [(x, u)])
    (law : ∃ S', F [.d (kInts ns)] [] = .ok (.d (.bl true)) S') :
    codeAny (model P w) callerA (.call (.ref fa) ⟨[.ref a], []⟩) (fun r s' => r = .ok (.ret (.bool true)) ∧ OldK s₁.heap s'.heap ∧ s'.os = s₁.os ∧ AllBare s'.gens) s₁ := by
  have hv : Vals (ns.map V.int) us := vals_ints hi
  have hz : (ns.map V.int).length ≤ sizeLine := by rw [List.length_map]; exact hl
  obtain ⟨H, B⟩ := bare_of G.K a (ns.map V.int) us hv hz fun o e => by
    have q := KX a o e
    rw [ha] at q
    exact (Option.some.inj q).symm
  -- what is not tracked stands in the base
  have keep : ∀ b o, s₁.heap.get? b = some o → H b = none → (hidT s₁.heap H).get? b = some o := fun b o e n => hidT_get e n
  have off : ∀ b o, s₁.heap.get? b = some o → (b = a → o.data ≠ .seq us.toArray) → H b = none := fun b o e n => by
    cases q : H b with
    | none => rfl
    | some u =>
      obtain ⟨rfl, _, _⟩ := B.all b u q
      rw [ha] at e
      cases e
      exact absurd rfl (n rfl)
  have ns_ : ∀ {b : Addr} {m : Str → Option Value}, s₁.heap.Ns b m → (hidT s₁.heap H).Ns b m := fun {b m} ⟨o, es, ep, e, d, r⟩ =>
    ⟨o, es, ep, keep b o e (off b o e fun _ z => by rw [d] at z; cases z), d, r⟩
  have kin : G.K.In (hidT s₁.heap H) := fun b o e => keep b o (KX b o e) (by
    cases q : H b with
    | none => rfl
    | some u =>
      obtain ⟨rfl, _, n⟩ := B.all b u q
      rw [n] at e
      cases e)
  have md : Mod G.K mg (hidT s₁.heap H) := ⟨kin, ns_ hns, ⟨mb, ns_ hb, hbb⟩, let ⟨mc, h1, h2⟩ := hlim; ⟨mc, ns_ h1, h2⟩⟩
  have hok : HOk P w H s₁.heap := fun b u q => by
    obtain ⟨rfl, rfl, _⟩ := B.all b u q
    exact ⟨ha, hz, us, _, hv, ha⟩
  have e0 : Env0 P w G.K mg (hidT s₁.heap H) callerA [] s₁ H :=
    ⟨rfl, md, fun b o e => of_hidT e, Nat.le_of_eq (hidT_size _ _), trivial, fun b hb => (nomatch hb), hok, .of_eq hg⟩
  obtain ⟨S', law⟩ := law
  have sp : spM G F [.ref a] H (fun v _ => v = .bl true) fun _ _ _ => False := by
    refine ⟨fun _ => False, [], [], [.d (kInts ns)], ⟨rfl, fun l k b ⟨h, _⟩ => by simp at h, fun l b c h => by simp at h, fun l b h => by simp at h, fun b h => h.elim, fun l b h => by simp at h⟩,
      .cons (.d (.klst (B.rl _ ?_) (drs_int ns))) .nil, ?_⟩
    · rintro (⟨l, h, _⟩ | h)
      · simp at h
      · exact h
    · rw [law]
      intro v H' t o
      have r := o.d
      cases r
      rfl
  refine codeAny_mono ((FG (hidT s₁.heap H)).run callerA [] s₁ H ⟨[.ref a], []⟩ [.ref a] [.ref a] _ _ hr hgr e0 (hbind s₁ (.ref a)) (.cons rfl .nil) sp) fun r s' h => ?_
  match r, h with
  | .error e, ⟨_, _, _, _, _, _, _, _, _, _, _, _, f⟩ => exact f.elim
  | .ok (.ret u), ⟨v, H', os, bare, un, hok', rv, q⟩ =>
    have q : v = .bl true := q
    subst q
    obtain rfl : u = Value.bool true := rv
    refine ⟨rfl, OldK.of_keep fun b o e => ?_, os, bare⟩
    cases q : H b with
    | none => exact un.keep b o e q (by intro z; cases z) (by intro z; cases z)
    | some t =>
      obtain ⟨rfl, rfl, _⟩ := B.all b t q
      rw [ha] at e
      cases e
      exact (hok' _ _ (un.frzs _ _ _ q)).1
end Mi

set_option maxHeartbeats 4000000
/-! the whole text from its rows; the law's walk -/
namespace Mi
open PySem PySem.Spec PyProof.Rows L2
/-- a def of the text: its name, its statement, its slots, its parameters, what it is in the small language -/
structure Rw where
  x : Str
  st : Stmt
  N : List Str
  ps : List Str
  fd : Fd
def scB (N ps : List Str) (sc : Scope) : Bool :=
  decide (sc.kind = .function) && !sc.isCoroutine && !sc.isGenerator && decide N.Nodup && decide (N.take ps.length = ps) && (ps.all fun x => decide (sc.names.lookup x = some .local) || decide (sc.names.lookup x = some .cell)) && sc.names.all fun y => decide (y.2 ≠ .free)
theorem scB_ok {N ps : List Str} {sc : Scope} (h : scB N ps sc = true) : FnScope N ps sc := by
  unfold scB at h
  simp only [Bool.and_eq_true, Bool.or_eq_true, decide_eq_true_eq, Bool.not_eq_true', List.all_eq_true] at h
  obtain ⟨⟨⟨⟨⟨⟨h1, h2⟩, h3⟩, h4⟩, h5⟩, h6⟩, h7⟩ := h
  exact ⟨h1, h2, h3, h4, h5, h6, h7⟩
def rowB (T : Tb) (r : Rw) : Bool := scB r.N r.ps (defScope r.st) && decide (r.ps.length = r.fd.np) && decide (r.N.length = r.fd.ns) && chkB { T with hot := r.fd.hot } r.N (defScope r.st) r.fd.body (defBody r.st)
/-- where it stands -/
structure DefR (K : PySem.W.Frag) (r : Rw) (p : Addr × FuncData) : Prop where
  ns : PySem.W.nsIn K mainGlobals r.x = some (some (.ref p.1))
  fn : Fun K r.x r.x r.st p.1 p.2
  bi : Binds K p.2 r.ps []
theorem defR_mk {K : PySem.W.Frag} {r : Rw} {f : Addr} {oc : Value} {od an : Option Addr} {sl : Array (Option Value)} {kV dc pm cd ct : Value} (a : PySem.W.nsIn K mainGlobals r.x = some (some (.ref f)))
    (l : K.lookup f = some ⟨oc, od, .func (PySem.W.fnOf r.x r.x (defArgs r.st) (defBody r.st) (defScope r.st) .none kV dc pm an cd ct), sl⟩) (c : PySem.W.codeIn K cd r.x = true) (k : PySem.W.keepIn K (.ref f) = true)
    (hb : ∀ (kV dc pm : Value) (an : Option Addr) (cd ct : Value) (us : List Value), us.length = r.ps.length → bindArgs (PySem.W.fnOf r.x r.x (defArgs r.st) (defBody r.st) (defScope r.st) .none kV dc pm an cd ct) ⟨us, []⟩ = pure (r.ps.zip us)) :
    DefR K r (f, PySem.W.fnOf r.x r.x (defArgs r.st) (defBody r.st) (defScope r.st) .none kV dc pm an cd ct) :=
  ⟨a, fun_mk (st := r.st) l c k, (fun_mk (st := r.st) l c k).binds hb⟩
/-- a constant of the text -/
structure GlbR (K : PySem.W.Frag) (x : Str) (d : D) : Prop where
  ex : ∃ v u, PySem.W.nsIn K mainGlobals x = some (some u) ∧ RelV v u ∧ ∀ (G : Gb) H N, G.K = K → DR G H N v d
theorem paired_get {α β : Type} {R : α → β → Prop} {xs : List α} {ys : List β} (h : Paired R xs ys) : ∀ (i : Nat) (x : α), xs[i]? = some x → ∃ y, ys[i]? = some y ∧ R x y := by
  induction h with
  | nil => intro i x e; simp at e
  | cons h r ih =>
    intro i x e
    cases i with
    | zero => simp at e; subst e; exact ⟨_, rfl, h⟩
    | succ i => obtain ⟨y, h1, h2⟩ := ih i x (by simpa using e); exact ⟨y, by simpa using h1, h2⟩
theorem kit_sub {K : PySem.W.Frag} {C D : Addr} {b : Bool} (h2 : PySem.W.isClsIn K D = true) (h3 : PySem.W.typeIn K (.ref D) = some (.type "type")) (hs : PySem.W.subIn K (.ref D) (.ref D) = some true) (h4 : PySem.W.subIn K (.ref C) (.ref D) = some b) : PySem.W.kitOne K (.ref C) (.ref D) = some b := by
  have e2 : ((PySem.W.clsIn K D).isSome && PySem.W.typeIn K (.ref D) == some (.type "type")) = true := by
    have h2' : (PySem.W.clsIn K D).isSome = true := h2
    rw [h2', h3] <;> rfl
  unfold PySem.W.kitOne
  by_cases z : (Value.ref C == Value.ref D) = true
  · rw [if_pos z]
    have e : C = D := by
      have q := beq_iff_eq.mp z
      cases q
      rfl
    subst e
    rw [hs] at h4
    exact h4
  · rw [if_neg z]
    show (if ((PySem.W.clsIn K D).isSome && PySem.W.typeIn K (.ref D) == some (.type "type")) = true then PySem.W.subIn K (.ref C) (.ref D) else none) = some b
    rw [if_pos e2]
    exact h4
theorem exm_sub {K : PySem.W.Frag} {C D : Addr} {b : Bool} (h1 : PySem.W.subIn K (.ref D) (.type "BaseException") = some true) (h2 : PySem.W.isClsIn K D = true) (h3 : PySem.W.typeIn K (.ref D) = some (.type "type")) (h4 : PySem.W.subIn K (.ref C) (.ref D) = some b) : PySem.W.exmOne K (.ref C) (.ref D) = some b := by
  have e1 : (PySem.W.subIn K (.ref D) (.type "BaseException") == some true) = true := by rw [h1] <;> rfl
  have e2 : ((PySem.W.clsIn K D).isSome && PySem.W.typeIn K (.ref D) == some (.type "type")) = true := by
    have h2' : (PySem.W.clsIn K D).isSome = true := h2
    rw [h2', h3] <;> rfl
  show (if (PySem.W.subIn K (.ref D) (.type "BaseException") == some true) = true then (if ((PySem.W.clsIn K D).isSome && PySem.W.typeIn K (.ref D) == some (.type "type")) = true then PySem.W.subIn K (.ref C) (.ref D) else none) else none) = some b
  rw [if_pos e1, if_pos e2]
  exact h4
theorem kit_val {K : PySem.W.Frag} {C : Addr} (h : PySem.W.subIn K (.ref C) (.type "ValueError") = some true) : PySem.W.kitOne K (.ref C) (.type "ValueError") = some true := by
  unfold PySem.W.kitOne
  have ne : ¬ (Value.ref C == Value.type "ValueError") = true := fun z => by cases (beq_iff_eq.mp z)
  rw [if_neg ne]
  show (if PySem.W.kitMeta "ValueError" = true then PySem.W.subIn K (.ref C) (.type "ValueError") else none) = some true
  rw [if_pos (by decide +kernel)]
  exact h
/-- a class of the text: the k-th, at a, with the field f -/
structure ClsR (K : PySem.W.Frag) (P : Program) (T : Tb) (cs : List Addr) (k : Nat) (a : Addr) (f : Str) : Prop where
  kit : ∀ p ∈ T.subs, PySem.W.kitOne K (.ref a) (.ref (cs.getD p.1 0)) = some (p.2.contains k)
  exm : ∀ p ∈ T.subs, PySem.W.exmOne K (.ref a) (.ref (cs.getD p.1 0)) = some (p.2.contains k)
  kiv : PySem.W.kitOne K (.ref a) (.type "ValueError") = some true
  cx : ClsA K a f
  sup : T.leaf.contains k = true → PySem.SupX.Nf f ∧ ∃ fI, PySem.SupX.SupTxt K P f a fI
/-- where the text stands -/
def G0 (K : PySem.W.Frag) (T : Tb) (rows : List Rw) (fs : List (Addr × FuncData)) (cs : List Addr) : Gb := ⟨K, fun i => (fs.map (·.1)).getD i 0, fun i => cs.getD i 0, rows.length, T.cls.length, fun k => T.flds.getD k default, none⟩
theorem mem_lk {α : Type} {c : Nat} {a : α} : ∀ {l : List (Nat × α)}, l.lookup c = some a → (c, a) ∈ l
  | [], e => by cases e
  | (k, b) :: l, e => by
    unfold List.lookup at e
    by_cases z : c = k
    · subst z
      simp at e
      subst e
      exact List.mem_cons_self
    · have q : (c == k) = false := by simpa using z
      rw [q] at e
      exact List.mem_cons_of_mem _ (mem_lk e)
theorem clsT_of {K : PySem.W.Frag} {P : Program} {T : Tb} {rows : List Rw} {fs : List (Addr × FuncData)} {cs : List Addr} (hl : T.leaf.all (fun k => decide (k < T.cls.length)) = true) (h : ∀ k, k < T.cls.length → ClsR K P T cs k (cs.getD k 0) (T.flds.getD k default)) : ClsT (G0 K T rows fs cs) P T :=
  ⟨rfl, fun k f e => by show T.flds.getD k default = f; rw [List.getD_eq_getElem?_getD, e]; rfl, fun c subs k e hk => (h k hk).kit (c, subs) (mem_lk e), fun c subs k e hk => (h k hk).exm (c, subs) (mem_lk e), fun k hk => (h k hk).kiv, fun k hk => (h k hk).cx, fun k hk => by
    have z : k < T.cls.length := of_decide_eq_true (List.all_eq_true.mp hl k (List.contains_iff_mem.mp hk))
    obtain ⟨h1, h2⟩ := (h k z).sup hk
    exact ⟨z, h1, h2⟩⟩
theorem text_of {K : PySem.W.Frag} {P : Program} {h : Heap} {mg : Str → Option Value} {rows : List Rw} {fs : List (Addr × FuncData)} {T : Tb} {Gs : List D} {cs : List Addr} (X : K.In h) (G : h.Ns mainGlobals mg) (hT : T.fns = rows.map (·.x)) (hB : rows.all (rowB T) = true) (hH : T.hotf.all (fun f => ((rows[f]?).map (·.fd.hot)) == some true) = true) (hL : T.leaf.all (fun k => decide (k < T.cls.length)) = true)
    (hf : Paired (DefR K) rows fs) (hg : Paired (GlbR K) T.gls Gs) (hc : Paired (fun x a => PySem.W.nsIn K mainGlobals x = some (some (.ref a))) T.cls cs) (hb : ∀ x ∈ T.blt, PySem.W.nsIn K mainGlobals x = some none) (hk : ∀ k, k < T.cls.length → ClsR K P T cs k (cs.getD k 0) (T.flds.getD k default)) :
    Text (G0 K T rows fs cs) P T mg (rows.map (·.fd)) Gs ∧ ∀ (f : Nat) (r : Rw), rows[f]? = some r → ∃ p, fs[f]? = some p ∧ DefR K r p ∧ Ok1 (G0 K T rows fs cs) T f r.fd p.2 r.ps := by
  have one : ∀ (f : Nat) (r : Rw), rows[f]? = some r → ∃ p, fs[f]? = some p ∧ (fs.map (·.1)).getD f 0 = p.1 ∧ DefR K r p ∧ Ok1 (G0 K T rows fs cs) T f r.fd p.2 r.ps := fun f r e => by
    obtain ⟨p, h1, h2⟩ := paired_get hf f r e
    have ea : (fs.map (·.1)).getD f 0 = p.1 := by rw [List.getD_eq_getElem?_getD, List.getElem?_map, h1]; rfl
    have b := List.all_eq_true.mp hB r (List.mem_of_getElem? e)
    unfold rowB at b
    simp only [Bool.and_eq_true, decide_eq_true_eq] at b
    obtain ⟨⟨⟨b1, b2⟩, b3⟩, b4⟩ := b
    refine ⟨p, h1, ea, h2, ⟨r.x, r.x, r.st, r.N, ?_, scB_ok b1, b2, b3, b4⟩, h2.bi⟩
    show Fun K r.x r.x r.st ((fs.map (·.1)).getD f 0) p.2
    rw [ea]
    exact h2.fn
  refine ⟨⟨fun f fd e => ?_, fun f x e => ?_, fun f hl => ?_, (List.length_map ..).symm, fun f e => ?_, rfl, fun g x e => ?_, fun c x e => ?_, fun x hx => ?_, clsT_of hL hk⟩, fun f r e => let ⟨p, h1, _, h2, h3⟩ := one f r e; ⟨p, h1, h2, h3⟩⟩
  · rw [List.getElem?_map] at e
    obtain ⟨r, e1, rfl⟩ := Option.map_eq_some_iff.mp e
    obtain ⟨p, _, _, _, o⟩ := one f r e1
    exact ⟨p.2, r.ps, o⟩
  · rw [hT, List.getElem?_map] at e
    obtain ⟨r, e1, rfl⟩ := Option.map_eq_some_iff.mp e
    obtain ⟨p, h1, ea, h2, _⟩ := one f r e1
    refine ⟨?_, by rw [List.length_map]; exact (List.getElem?_eq_some_iff.mp e1).1⟩
    show mg r.x = some (.ref ((fs.map (·.1)).getD f 0))
    rw [ea]
    exact PySem.W.mg_of X G h2.ns
  · rw [List.length_map] at hl
    obtain ⟨p, h1, ea, h2, _⟩ := one f _ (List.getElem?_eq_getElem hl)
    show PySem.W.keepIn K (.ref ((fs.map (·.1)).getD f 0)) = true
    rw [ea]
    exact h2.fn.kp
  · have q := beq_iff_eq.mp (List.all_eq_true.mp hH f (List.contains_iff_mem.mp e))
    obtain ⟨r, e1, e2⟩ := Option.map_eq_some_iff.mp q
    exact ⟨r.fd, by rw [List.getElem?_map, e1]; rfl, e2⟩
  · obtain ⟨d, h1, ⟨v, u, h2, h3, h4⟩⟩ := paired_get hg g x e
    exact ⟨d, v, u, h1, fun H N => h4 _ H N rfl, PySem.W.mg_of X G h2, h3⟩
  · obtain ⟨a, h1, h2⟩ := paired_get hc c x e
    show mg x = some (.ref (cs.getD c 0))
    rw [List.getD_eq_getElem?_getD, h1]
    exact PySem.W.mg_of X G h2
  · exact PySem.W.mg_none_of X G (hb x (List.contains_iff_mem.mp hx))
/-- the law's walk, from what the interpreter says -/
theorem walk_law {l : PySem.W.OpenLaw} {n k : Nat} {q : Program} {loose : List Str} {XP : (Str → Option Value) → Heap → Prop} {YP : World → Heap → Prop} {d : DefRec} {K : Params → PySem.W.Frag} {x : Str} {T : Tb} {rows : List Rw} {Gs : List D} {Wn fi : Nat}
    (hn : l.most = some n) (hn2 : n ≤ sizeLine) (hdf : d.params.defaults = []) (hr : Room k callerA) (hgr : callerA.guards = some [])
    (hY : ∀ (w : World) (h : Heap), YP w h → (K w.params).In h) (hT : T.fns = rows.map (·.x)) (hB : rows.all (rowB T) = true) (hH : T.hotf.all (fun f => ((rows[f]?).map (·.fd.hot)) == some true) = true) (hL : T.leaf.all (fun k => decide (k < T.cls.length)) = true) (hfi : ∃ r, rows[fi]? = some r ∧ r.x = d.name ∧ r.ps = [x])
    (F : ∀ w : World, ∃ (fs : List (Addr × FuncData)) (cs : List Addr), Paired (DefR (K w.params)) rows fs ∧ Paired (GlbR (K w.params)) T.gls Gs ∧ Paired (fun x a => PySem.W.nsIn (K w.params) mainGlobals x = some (some (.ref a))) T.cls cs ∧
      (∀ y ∈ T.blt, PySem.W.nsIn (K w.params) mainGlobals y = some none) ∧ (∀ k, k < T.cls.length → ClsR (K w.params) l.prog T cs k (cs.getD k 0) (T.flds.getD k default)) ∧ ∀ p, fs[fi]? = some p → ∀ (s : Shared) (u : Value), BindsTo s p.2 ⟨[u], []⟩ [(x, u)])
    (law : ∀ ns : List Int, ns.length ≤ n → (∀ z ∈ ns, Builtin.Int.intBits z ≤ 1048576) → ∃ S', callF (rows.map (·.fd)) Gs Wn k fi [.d (kInts ns)] [] = .ok (.d (.bl true)) S') :
    PySem.W.WalkO q loose XP YP l.row.toRowW d [] (fun f vs => PySem.call f vs) := by
  refine Att.attach_callB hn hdf fun w s₀ s₁ mg mb fa o pm cd doc a vs ns G Y ho hd hcd hmg hobj hints hlen hbits hg => ?_
  have KX := hY w _ Y
  obtain ⟨fs, cs, h1, h2, h3, h4, h5, hb⟩ := F w
  obtain ⟨tx, one⟩ := text_of KX G.T.g hT hB hH hL h1 h2 h3 h4 h5
  obtain ⟨r, hr1, hr2, hr3⟩ := hfi
  obtain ⟨p, e1, e2, e3⟩ := one fi r hr1
  have ea : (fs.map (·.1)).getD fi 0 = p.1 := by rw [List.getD_eq_getElem?_getD, List.getElem?_map, e1]; rfl
  have efa : p.1 = fa := by
    have q := PySem.W.mg_of KX G.T.g e2.ns
    rw [hr2, hmg] at q
    cases q
    rfl
  have ef : (rows.map (·.fd))[fi]? = some r.fd := by rw [List.getElem?_map, hr1]; rfl
  rw [hr3] at e3
  refine call_law (G := G0 (K w.params) T rows fs cs) (F := callF (rows.map (·.fd)) Gs Wn k fi) KX G.T.g G.T.b G.T.builtins G.T.nolimit hg hobj hints (Nat.le_trans hlen hn2) hr hgr (fun base => ?_) (hb p e1) (law ns hlen hbits)
  have q := (levels (P := l.prog) (w := w) (base := base) (Wn := Wn) tx k).1 fi r.fd p.2 [x] ef e3
  have q2 : (fs.map (·.1)).getD fi 0 = fa := ea.trans efa
  show FnG l.prog w (K w.params) mg base k fa p.2 [x] (spM _ _)
  rw [← q2]
  exact q
end Mi

set_option maxHeartbeats 4000000
namespace K50
open PySem PySem.Spec PyProof.Rows L2 Mi
def topS (i : Nat) : Stmt := PySem.Challenge.pw_oneplainroll_k50_lexing.main.body.getD i (.Pass ⟨0, 0, 0, 0⟩)
/-- tokens_of -/
def b0 : List Sx := [.ex (.call 1 [(.var 0)]), .ret (.bi .tuple [(.call 2 [(.var 0)])])]
def n0 : List Str := ["text"]
/-- check_text -/
def b1 : List Sx := [.iff (.orE [(.notE (.bi .isinst [(.var 0), (.typ "str")])), (.cmp .Gt (.bi .len [(.var 0)]) (.glb 2))]) [.raise 2 [(.kS "text")]] []]
def n1 : List Str := ["text"]
/-- cut -/
def b2 : List Sx := [.asgP 1 (.lst []) 2 (.kI 0), .whl (.cmp .Lt (.var 2) (.bi .len [(.var 0)])) [.iff (.cmp .In (.ix (.var 0) (.var 2)) (.kS " \n")) [.aug 2 .Add (.kI 1), .cont] [], .asgS [(.nm 3), (.nm 4), (.nm 5)] (.call 3 [(.var 0), (.var 2)]), .ex (.mt .append (.var 1) [(.tup [(.var 3), (.var 4), (.var 2)])]), .asg 2 (.var 5)], .ret (.var 1)]
def n2 : List Str := ["text", "found", "at", "kind", "value", "end"]
/-- token_at -/
def b3 : List Sx := [.iff (.cmp .In (.ix (.var 0) (.var 1)) (.glb 3)) [.asg 2 (.call 4 [(.var 0), (.var 1), (.glb 3)]), .iff (.cmp .Gt (.bin .Sub (.var 2) (.var 1)) (.glb 1)) [.raise 1 [(.bin .Add (.var 1) (.glb 1))]] [], .ret (.tup [(.kS "word"), (.slc (.var 0) (some (.var 1)) (some (.var 2))), (.var 2)])] [], .iff (.cmp .In (.ix (.var 0) (.var 1)) (.glb 4)) [.asg 2 (.call 4 [(.var 0), (.var 1), (.glb 4)]), .iff (.andE [(.cmp .Eq (.ix (.var 0) (.var 1)) (.kS "0")), (.cmp .Gt (.bin .Sub (.var 2) (.var 1)) (.kI 1))]) [.raise 1 [(.bin .Add (.var 1) (.kI 1))]] [], .iff (.cmp .Gt (.bin .Sub (.var 2) (.var 1)) (.glb 0)) [.raise 1 [(.bin .Add (.var 1) (.glb 0))]] [], .ret (.tup [(.kS "int"), (.bi .int [(.slc (.var 0) (some (.var 1)) (some (.var 2)))]), (.var 2)])] [], .iff (.cmp .NotIn (.ix (.var 0) (.var 1)) (.glb 5)) [.raise 1 [(.var 1)]] [], .ret (.tup [(.kS "sign"), (.ix (.var 0) (.var 1)), (.bin .Add (.var 1) (.kI 1))])]
def n3 : List Str := ["text", "at", "end"]
/-- run_end -/
def b4 : List Sx := [.whl (.andE [(.cmp .Lt (.var 1) (.bi .len [(.var 0)])), (.cmp .In (.ix (.var 0) (.var 1)) (.var 2))]) [.aug 1 .Add (.kI 1)], .ret (.var 1)]
def n4 : List Str := ["text", "at", "signs"]
/-- _law_start -/
def b5 : List Sx := [.asg 1 (.kI 7), .for (.nm 2) (.slc (.var 0) none (some (.kI 63))) [.asg 1 (.bin .Add (.bin .Mod (.bi .int [(.bin .Add (.bin .Mult (.var 1) (.kI 48271)) (.var 2))]) (.kI 2147483629)) (.kI 1))], .ret (.lst [(.lc (.bi .abs [(.bi .int [(.var 2)])]) (.nm 2) (.slc (.var 0) none (some (.kI 63))) [] [2]), (.kI 0), (.kI 0), (.kI 0), (.var 1), (.kI 0)])]
def n5 : List Str := ["script", "seed", "cell"]
/-- _law_draw -/
def b6 : List Sx := [.iff (.andE [(.cmp .Eq (.ix (.var 0) (.kI 3)) (.kI 0)), (.cmp .Lt (.ix (.var 0) (.kI 1)) (.bi .len [(.ix (.var 0) (.kI 0))]))]) [.asgX [((.var 0), (.kI 2)), ((.var 0), (.kI 3)), ((.var 0), (.kI 1))] (.tup [(.ix (.ix (.var 0) (.kI 0)) (.ix (.var 0) (.kI 1))), (.kI 60), (.bin .Add (.ix (.var 0) (.kI 1)) (.kI 1))])] [], .iff (.cmp .Gt (.ix (.var 0) (.kI 3)) (.kI 0)) [.asg 2 (.bin .Mod (.bi .int [(.ix (.var 0) (.kI 2))]) (.var 1)), .setix (.var 0) (.kI 2) (.bin .FloorDiv (.ix (.var 0) (.kI 2)) (.var 1)), .setix (.var 0) (.kI 3) (.ife (.cmp .Gt (.ix (.var 0) (.kI 2)) (.kI 0)) (.bin .Sub (.ix (.var 0) (.kI 3)) (.kI 1)) (.kI 0)), .ret (.var 2)] [], .setix (.var 0) (.kI 5) (.bin .Add (.ix (.var 0) (.kI 5)) (.kI 1)), .setix (.var 0) (.kI 4) (.bin .Mod (.bi .int [(.bin .Add (.bin .Add (.bin .Mult (.ix (.var 0) (.kI 4)) (.kI 48271)) (.bin .Mult (.bin .Mult (.ix (.var 0) (.kI 5)) (.ix (.var 0) (.kI 5))) (.kI 69621))) (.kI 11))]) (.kI 2147483647)), .ret (.bin .Mod (.bi .int [(.bin .FloorDiv (.ix (.var 0) (.kI 4)) (.kI 13))]) (.var 1))]
def n6 : List Str := ["state", "many", "found"]
/-- _law_pick -/
def b7 : List Sx := [.ret (.ix (.var 1) (.call 6 [(.var 0), (.bi .len [(.var 1)])]))]
def n7 : List Str := ["state", "some"]
/-- _law_same -/
def b8 : List Sx := [.ret (.andE [(.cmp .Eq (.var 0) (.var 1)), (.cmp .Eq (.bi .repr [(.var 0)]) (.bi .repr [(.var 1)]))])]
def n8 : List Str := ["actual", "due"]
/-- _law_word -/
def b9 : List Sx := [.asg 1 (.lst [(.kS "argument "), (.kS "paper "), (.kS "land "), (.kS "many ")]), .asg 2 (.lst [(.isE 0 2 [2]), (.isE 0 4 [4]), (.isE 0 3 [3]), (.isE 0 5 [5]), (.isE 0 1 [1])]), .iff (.orE [(.cmp .NotEq (.pm .lcount (.var 2) [(.kB true)]) (.kI 1)), (.notE (.isV 0))]) [.ret (.kS "other")] [], .ret (.ife (.ix (.var 2) (.kI 4)) (.bin .Add (.kS "text ") (.bi .str [(.attr 0 "at" [1])])) (.bin .Add (.ix (.var 1) (.pm .lindex (.var 2) [(.kB true)])) (.attr 0 "reason" [2, 3, 4, 5])))]
def n9 : List Str := ["error", "heads", "kinds"]
/-- _law_called -/
def b10 : List Sx := [.iff (.cmp .Lt (.bi .len [(.var 1)]) (.kI 3)) [.ret (.ife (.cmp .Eq (.bi .len [(.var 1)]) (.kI 1)) (.dyn 0 [(.ix (.var 1) (.kI 0))]) (.dyn 0 [(.ix (.var 1) (.kI 0)), (.ix (.var 1) (.kI 1))]))] [], .iff (.cmp .Lt (.bi .len [(.var 1)]) (.kI 5)) [.ret (.ife (.cmp .Eq (.bi .len [(.var 1)]) (.kI 3)) (.dyn 0 [(.ix (.var 1) (.kI 0)), (.ix (.var 1) (.kI 1)), (.ix (.var 1) (.kI 2))]) (.dyn 0 [(.ix (.var 1) (.kI 0)), (.ix (.var 1) (.kI 1)), (.ix (.var 1) (.kI 2)), (.ix (.var 1) (.kI 3))]))] [], .iff (.cmp .Lt (.bi .len [(.var 1)]) (.kI 7)) [.ret (.ife (.cmp .Eq (.bi .len [(.var 1)]) (.kI 5)) (.dyn 0 [(.ix (.var 1) (.kI 0)), (.ix (.var 1) (.kI 1)), (.ix (.var 1) (.kI 2)), (.ix (.var 1) (.kI 3)), (.ix (.var 1) (.kI 4))]) (.dyn 0 [(.ix (.var 1) (.kI 0)), (.ix (.var 1) (.kI 1)), (.ix (.var 1) (.kI 2)), (.ix (.var 1) (.kI 3)), (.ix (.var 1) (.kI 4)), (.ix (.var 1) (.kI 5))]))] [], .ret (.dyn 0 [(.ix (.var 1) (.kI 0)), (.ix (.var 1) (.kI 1)), (.ix (.var 1) (.kI 2)), (.ix (.var 1) (.kI 3)), (.ix (.var 1) (.kI 4)), (.ix (.var 1) (.kI 5)), (.ix (.var 1) (.kI 6))])]
def n10 : List Str := ["call", "some"]
/-- _law_asked -/
def b11 : List Sx := [.tryF [.ret (.lst [(.call 10 [(.var 0), (.var 1)])])] 0 [0, 1, 2, 3, 4, 5] 2 9]
def n11 : List Str := ["call", "some", "error"]
/-- _law_cut -/
def b12 : List Sx := [.asgP 1 (.lst []) 2 (.kI 0), .whl (.cmp .Lt (.var 2) (.bi .len [(.var 0)])) [.asgS [(.nm 3), (.nm 4)] (.tup [(.ix (.var 0) (.var 2)), (.bin .Add (.var 2) (.kI 1))]), .iff (.cmp .In (.var 3) (.kS " \n")) [.asg 2 (.bin .Add (.var 2) (.kI 1)), .cont] [], .iff (.chn .LtE .LtE (.kS "a") (.var 3) (.kS "z")) [.whl (.andE [(.cmp .Lt (.var 4) (.bi .len [(.var 0)])), (.chn .LtE .LtE (.kS "a") (.ix (.var 0) (.var 4)) (.kS "z"))]) [.asg 4 (.bin .Add (.var 4) (.kI 1))], .iff (.cmp .Gt (.bin .Sub (.var 4) (.var 2)) (.kI 10)) [.ret (.bin .Add (.var 2) (.kI 10))] [], .ex (.mt .append (.var 1) [(.tup [(.kS "word"), (.slc (.var 0) (some (.var 2)) (some (.var 4))), (.var 2)])])] [.iff (.cmp .In (.var 3) (.kS "0123456789")) [.whl (.andE [(.cmp .Lt (.var 4) (.bi .len [(.var 0)])), (.cmp .In (.ix (.var 0) (.var 4)) (.kS "0123456789"))]) [.asg 4 (.bin .Add (.var 4) (.kI 1))], .iff (.andE [(.cmp .Eq (.var 3) (.kS "0")), (.cmp .Gt (.bin .Sub (.var 4) (.var 2)) (.kI 1))]) [.ret (.bin .Add (.var 2) (.kI 1))] [], .iff (.cmp .Gt (.bin .Sub (.var 4) (.var 2)) (.kI 12)) [.ret (.bin .Add (.var 2) (.kI 12))] [], .ex (.mt .append (.var 1) [(.tup [(.kS "int"), (.bi .int [(.slc (.var 0) (some (.var 2)) (some (.var 4)))]), (.var 2)])])] [.iff (.cmp .In (.var 3) (.kS ";,()/-#.")) [.ex (.mt .append (.var 1) [(.tup [(.kS "sign"), (.var 3), (.var 2)])])] [.ret (.var 2)]]], .asg 2 (.var 4)], .ret (.var 1)]
def n12 : List Str := ["text", "found", "at", "sign", "end"]
/-- _law_text -/
def b13 : List Sx := [.asg 1 (.lst [(.kS "sell"), (.kS "a"), (.bin .Mult (.kS "z") (.kI 10)), (.kS "abcdefghij"), (.kS "0"), (.kS "7"), (.kS "10"), (.bin .Mult (.kS "9") (.kI 12)), (.bin .Add (.kS "1") (.bin .Mult (.kS "0") (.kI 11))), (.kS ";"), (.kS ","), (.kS "("), (.kS ")"), (.kS "/"), (.kS "-"), (.kS "#"), (.kS "."), (.kS "of"), (.kS "100")]), .asg 2 (.lst [(.bin .Mult (.kS "z") (.kI 11)), (.kS "abcdefghijklm"), (.kS "00"), (.kS "01"), (.bin .Mult (.kS "9") (.kI 13)), (.bin .Add (.kS "1") (.bin .Mult (.kS "0") (.kI 14))), (.kS "A"), (.kS "_"), (.kS "+"), (.kS "="), (.kS ":"), (.kS "	"), (.kS "\""), (.kS "$"), (.bin .Mult (.kS "x") (.kI 40)), (.bin .Mult (.kS "0") (.kI 9))]), .asg 3 (.kS ""), .for (.nm 4) (.rng [(.call 6 [(.var 0), (.kI 20)])]) [.asg 3 (.bin .Add (.bin .Add (.var 3) (.ife (.cmp .Eq (.call 6 [(.var 0), (.kI 14)]) (.kI 0)) (.call 7 [(.var 0), (.var 2)]) (.call 7 [(.var 0), (.var 1)]))) (.call 7 [(.var 0), (.lst [(.kS " "), (.kS "  "), (.kS "\n"), (.kS ""), (.kS ""), (.kS " \n")])]))], .ret (.var 3)]
def n13 : List Str := ["state", "some", "odd", "text", "k"]
/-- law -/
def b14 : List Sx := [.asgN 1 (.call 5 [(.var 0)]), .for (.nm 2) (.rng [(.kI 14)]) [.asg 3 (.call 13 [(.var 1)]), .asg 4 (.call 12 [(.var 3)]), .iff (.notE (.call 8 [(.call 11 [(.fnv 0), (.lst [(.var 3)])]), (.ife (.bi .isinst [(.var 4), (.typ "list")]) (.lst [(.bi .tuple [(.var 4)])]) (.bin .Add (.kS "text ") (.bi .str [(.var 4)])))])) [.ret (.kB false)] []], .for (.nm 3) (.lst [(.bin .Mult (.kS " ") (.kI 4000)), (.bin .Mult (.kS "a ") (.kI 2000)), (.kS ""), (.kS "\n"), (.bin .Mult (.kS "1;") (.kI 2000))]) [.iff (.notE (.call 8 [(.call 11 [(.fnv 0), (.lst [(.var 3)])]), (.lst [(.bi .tuple [(.call 12 [(.var 3)])])])])) [.ret (.kB false)] []], .ret (.cmp .Eq (.lc (.call 11 [(.fnv 0), (.lst [(.var 5)])]) (.nm 5) (.lst [.kN, (.kI 5), (.tup [(.kS "a")]), (.kB true), (.bin .Mult (.kS " ") (.kI 4001))]) [] [5]) (.bin .Mult (.lst [(.kS "argument text")]) (.kI 5)))]
def n14 : List Str := ["script", "state", "turn", "text", "due", "own"]
def rows : List Rw := [⟨"tokens_of", topS 14, n0, ["text"], ⟨1, 1, b0, false⟩⟩,
  ⟨"check_text", topS 15, n1, ["text"], ⟨1, 1, b1, false⟩⟩,
  ⟨"cut", topS 16, n2, ["text"], ⟨1, 6, b2, false⟩⟩,
  ⟨"token_at", topS 17, n3, ["text", "at"], ⟨2, 3, b3, false⟩⟩,
  ⟨"run_end", topS 18, n4, ["text", "at", "signs"], ⟨3, 3, b4, false⟩⟩,
  ⟨"_law_start", topS 20, n5, ["script"], ⟨1, 3, b5, false⟩⟩,
  ⟨"_law_draw", topS 21, n6, ["state", "many"], ⟨2, 3, b6, false⟩⟩,
  ⟨"_law_pick", topS 22, n7, ["state", "some"], ⟨2, 2, b7, false⟩⟩,
  ⟨"_law_same", topS 23, n8, ["actual", "due"], ⟨2, 2, b8, false⟩⟩,
  ⟨"_law_word", topS 24, n9, ["error"], ⟨1, 3, b9, true⟩⟩,
  ⟨"_law_called", topS 25, n10, ["call", "some"], ⟨2, 2, b10, false⟩⟩,
  ⟨"_law_asked", topS 26, n11, ["call", "some"], ⟨2, 3, b11, false⟩⟩,
  ⟨"_law_cut", topS 27, n12, ["text"], ⟨1, 5, b12, false⟩⟩,
  ⟨"_law_text", topS 28, n13, ["state"], ⟨1, 5, b13, false⟩⟩,
  ⟨"law", topS 29, n14, ["script"], ⟨1, 6, b14, false⟩⟩]
def tb : Tb := { fns := ["tokens_of", "check_text", "cut", "token_at", "run_end", "_law_start", "_law_draw", "_law_pick", "_law_same", "_law_word", "_law_called", "_law_asked", "_law_cut", "_law_text", "law"], gls := ["MAX_DIGITS", "MAX_NAME", "MAX_TEXT", "LETTERS", "DIGITS", "SIGNS"], cls := ["RollError", "TextError", "ArgumentError", "LandError", "PaperError", "TooMany"], blt := ["ValueError", "abs", "int", "isinstance", "len", "list", "range", "repr", "str", "tuple"], hotf := [9], subs := [(0, [0, 1, 2, 3, 4, 5]), (1, [1]), (2, [2]), (3, [3]), (4, [4]), (5, [5])], flds := ["reason", "at", "reason", "reason", "reason", "reason"], leaf := [1, 2] }
def gs : List D := [(.int (12)), (.int (10)), (.int (4000)), (.str "abcdefghijklmnopqrstuvwxyz"), (.str "0123456789"), (.str ";,()/-#.")]
theorem rows_ok : rows.all (rowB tb) = true := by decide +kernel
theorem hot_ok : tb.hotf.all (fun f => ((rows[f]?).map (·.fd.hot)) == some true) = true := by decide +kernel
theorem leaf_ok : tb.leaf.all (fun k => decide (k < tb.cls.length)) = true := by decide +kernel
theorem all_mk {K : PySem.W.Frag} {f0 : Addr} {od0 an0 : Option Addr} {sl0 : Array (Option Value)} {oc0 kV0 dc0 pm0 cd0 ct0 : Value} {f1 : Addr} {od1 an1 : Option Addr} {sl1 : Array (Option Value)} {oc1 kV1 dc1 pm1 cd1 ct1 : Value} {f2 : Addr} {od2 an2 : Option Addr} {sl2 : Array (Option Value)} {oc2 kV2 dc2 pm2 cd2 ct2 : Value} {f3 : Addr} {od3 an3 : Option Addr} {sl3 : Array (Option Value)} {oc3 kV3 dc3 pm3 cd3 ct3 : Value} {f4 : Addr} {od4 an4 : Option Addr} {sl4 : Array (Option Value)} {oc4 kV4 dc4 pm4 cd4 ct4 : Value} {f5 : Addr} {od5 an5 : Option Addr} {sl5 : Array (Option Value)} {oc5 kV5 dc5 pm5 cd5 ct5 : Value} {f6 : Addr} {od6 an6 : Option Addr} {sl6 : Array (Option Value)} {oc6 kV6 dc6 pm6 cd6 ct6 : Value} {f7 : Addr} {od7 an7 : Option Addr} {sl7 : Array (Option Value)} {oc7 kV7 dc7 pm7 cd7 ct7 : Value} {f8 : Addr} {od8 an8 : Option Addr} {sl8 : Array (Option Value)} {oc8 kV8 dc8 pm8 cd8 ct8 : Value} {f9 : Addr} {od9 an9 : Option Addr} {sl9 : Array (Option Value)} {oc9 kV9 dc9 pm9 cd9 ct9 : Value} {f10 : Addr} {od10 an10 : Option Addr} {sl10 : Array (Option Value)} {oc10 kV10 dc10 pm10 cd10 ct10 : Value} {f11 : Addr} {od11 an11 : Option Addr} {sl11 : Array (Option Value)} {oc11 kV11 dc11 pm11 cd11 ct11 : Value} {f12 : Addr} {od12 an12 : Option Addr} {sl12 : Array (Option Value)} {oc12 kV12 dc12 pm12 cd12 ct12 : Value} {f13 : Addr} {od13 an13 : Option Addr} {sl13 : Array (Option Value)} {oc13 kV13 dc13 pm13 cd13 ct13 : Value} {f14 : Addr} {od14 an14 : Option Addr} {sl14 : Array (Option Value)} {oc14 kV14 dc14 pm14 cd14 ct14 : Value} {gt1 gt2 gt3 gt4 gt5 gt6 : Tok} {y0 y1 y2 y3 y4 y5 : Addr} {ynm_1 yq_1 : Str} {yN_1 yfi_1 yda_1 ycc_1 : Addr} {ybs_1 ybm_1 ysb_1 : List Value} {ysn_1 : List Str} {yab_1 : Bool} {yco_1 : Option Bool} {ydd_1 yod_1 yan_1 ycdd_1 ycld_1 : Option Addr} {ya0_1 ya1_1 ya2_1 ya3_1 ya5_1 : Option Value} {yoc_1 ydo_1 ypm_1 yct_1 yccl_1 ylc_1 : Value} {yqu_1 ymm_1 yfl_1 : Str} {yos_1 yccs_1 ycsl_1 : Array (Option Value)} {ykk_1 : Nat} {yp1_1 yp2_1 yq1_1 yq2_1 yq3_1 yq4_1 yq5_1 yq6_1 yq7_1 yq8_1 yq9_1 yq10_1 : Pos} {yvs_1 : Array Value} {ytf_1 : Tok} {ynm_2 yq_2 : Str} {yN_2 yfi_2 yda_2 ycc_2 : Addr} {ybs_2 ybm_2 ysb_2 : List Value} {ysn_2 : List Str} {yab_2 : Bool} {yco_2 : Option Bool} {ydd_2 yod_2 yan_2 ycdd_2 ycld_2 : Option Addr} {ya0_2 ya1_2 ya2_2 ya3_2 ya5_2 : Option Value} {yoc_2 ydo_2 ypm_2 yct_2 yccl_2 ylc_2 : Value} {yqu_2 ymm_2 yfl_2 : Str} {yos_2 yccs_2 ycsl_2 : Array (Option Value)} {ykk_2 : Nat} {yp1_2 yp2_2 yq1_2 yq2_2 yq3_2 yq4_2 yq5_2 yq6_2 yq7_2 yq8_2 yq9_2 yq10_2 : Pos} {yvs_2 : Array Value} {ytf_2 : Tok}
    (a0 : PySem.W.nsIn K mainGlobals "tokens_of" = some (some (.ref f0))) (l0 : K.lookup f0 = some ⟨oc0, od0, .func (PySem.W.fnOf "tokens_of" "tokens_of" (defArgs (topS 14)) (defBody (topS 14)) (defScope (topS 14)) .none kV0 dc0 pm0 an0 cd0 ct0), sl0⟩) (c0 : PySem.W.codeIn K cd0 "tokens_of" = true) (k0 : PySem.W.keepIn K (.ref f0) = true)
    (a1 : PySem.W.nsIn K mainGlobals "check_text" = some (some (.ref f1))) (l1 : K.lookup f1 = some ⟨oc1, od1, .func (PySem.W.fnOf "check_text" "check_text" (defArgs (topS 15)) (defBody (topS 15)) (defScope (topS 15)) .none kV1 dc1 pm1 an1 cd1 ct1), sl1⟩) (c1 : PySem.W.codeIn K cd1 "check_text" = true) (k1 : PySem.W.keepIn K (.ref f1) = true)
    (a2 : PySem.W.nsIn K mainGlobals "cut" = some (some (.ref f2))) (l2 : K.lookup f2 = some ⟨oc2, od2, .func (PySem.W.fnOf "cut" "cut" (defArgs (topS 16)) (defBody (topS 16)) (defScope (topS 16)) .none kV2 dc2 pm2 an2 cd2 ct2), sl2⟩) (c2 : PySem.W.codeIn K cd2 "cut" = true) (k2 : PySem.W.keepIn K (.ref f2) = true)
    (a3 : PySem.W.nsIn K mainGlobals "token_at" = some (some (.ref f3))) (l3 : K.lookup f3 = some ⟨oc3, od3, .func (PySem.W.fnOf "token_at" "token_at" (defArgs (topS 17)) (defBody (topS 17)) (defScope (topS 17)) .none kV3 dc3 pm3 an3 cd3 ct3), sl3⟩) (c3 : PySem.W.codeIn K cd3 "token_at" = true) (k3 : PySem.W.keepIn K (.ref f3) = true)
    (a4 : PySem.W.nsIn K mainGlobals "run_end" = some (some (.ref f4))) (l4 : K.lookup f4 = some ⟨oc4, od4, .func (PySem.W.fnOf "run_end" "run_end" (defArgs (topS 18)) (defBody (topS 18)) (defScope (topS 18)) .none kV4 dc4 pm4 an4 cd4 ct4), sl4⟩) (c4 : PySem.W.codeIn K cd4 "run_end" = true) (k4 : PySem.W.keepIn K (.ref f4) = true)
    (a5 : PySem.W.nsIn K mainGlobals "_law_start" = some (some (.ref f5))) (l5 : K.lookup f5 = some ⟨oc5, od5, .func (PySem.W.fnOf "_law_start" "_law_start" (defArgs (topS 20)) (defBody (topS 20)) (defScope (topS 20)) .none kV5 dc5 pm5 an5 cd5 ct5), sl5⟩) (c5 : PySem.W.codeIn K cd5 "_law_start" = true) (k5 : PySem.W.keepIn K (.ref f5) = true)
    (a6 : PySem.W.nsIn K mainGlobals "_law_draw" = some (some (.ref f6))) (l6 : K.lookup f6 = some ⟨oc6, od6, .func (PySem.W.fnOf "_law_draw" "_law_draw" (defArgs (topS 21)) (defBody (topS 21)) (defScope (topS 21)) .none kV6 dc6 pm6 an6 cd6 ct6), sl6⟩) (c6 : PySem.W.codeIn K cd6 "_law_draw" = true) (k6 : PySem.W.keepIn K (.ref f6) = true)
    (a7 : PySem.W.nsIn K mainGlobals "_law_pick" = some (some (.ref f7))) (l7 : K.lookup f7 = some ⟨oc7, od7, .func (PySem.W.fnOf "_law_pick" "_law_pick" (defArgs (topS 22)) (defBody (topS 22)) (defScope (topS 22)) .none kV7 dc7 pm7 an7 cd7 ct7), sl7⟩) (c7 : PySem.W.codeIn K cd7 "_law_pick" = true) (k7 : PySem.W.keepIn K (.ref f7) = true)
    (a8 : PySem.W.nsIn K mainGlobals "_law_same" = some (some (.ref f8))) (l8 : K.lookup f8 = some ⟨oc8, od8, .func (PySem.W.fnOf "_law_same" "_law_same" (defArgs (topS 23)) (defBody (topS 23)) (defScope (topS 23)) .none kV8 dc8 pm8 an8 cd8 ct8), sl8⟩) (c8 : PySem.W.codeIn K cd8 "_law_same" = true) (k8 : PySem.W.keepIn K (.ref f8) = true)
    (a9 : PySem.W.nsIn K mainGlobals "_law_word" = some (some (.ref f9))) (l9 : K.lookup f9 = some ⟨oc9, od9, .func (PySem.W.fnOf "_law_word" "_law_word" (defArgs (topS 24)) (defBody (topS 24)) (defScope (topS 24)) .none kV9 dc9 pm9 an9 cd9 ct9), sl9⟩) (c9 : PySem.W.codeIn K cd9 "_law_word" = true) (k9 : PySem.W.keepIn K (.ref f9) = true)
    (a10 : PySem.W.nsIn K mainGlobals "_law_called" = some (some (.ref f10))) (l10 : K.lookup f10 = some ⟨oc10, od10, .func (PySem.W.fnOf "_law_called" "_law_called" (defArgs (topS 25)) (defBody (topS 25)) (defScope (topS 25)) .none kV10 dc10 pm10 an10 cd10 ct10), sl10⟩) (c10 : PySem.W.codeIn K cd10 "_law_called" = true) (k10 : PySem.W.keepIn K (.ref f10) = true)
    (a11 : PySem.W.nsIn K mainGlobals "_law_asked" = some (some (.ref f11))) (l11 : K.lookup f11 = some ⟨oc11, od11, .func (PySem.W.fnOf "_law_asked" "_law_asked" (defArgs (topS 26)) (defBody (topS 26)) (defScope (topS 26)) .none kV11 dc11 pm11 an11 cd11 ct11), sl11⟩) (c11 : PySem.W.codeIn K cd11 "_law_asked" = true) (k11 : PySem.W.keepIn K (.ref f11) = true)
    (a12 : PySem.W.nsIn K mainGlobals "_law_cut" = some (some (.ref f12))) (l12 : K.lookup f12 = some ⟨oc12, od12, .func (PySem.W.fnOf "_law_cut" "_law_cut" (defArgs (topS 27)) (defBody (topS 27)) (defScope (topS 27)) .none kV12 dc12 pm12 an12 cd12 ct12), sl12⟩) (c12 : PySem.W.codeIn K cd12 "_law_cut" = true) (k12 : PySem.W.keepIn K (.ref f12) = true)
    (a13 : PySem.W.nsIn K mainGlobals "_law_text" = some (some (.ref f13))) (l13 : K.lookup f13 = some ⟨oc13, od13, .func (PySem.W.fnOf "_law_text" "_law_text" (defArgs (topS 28)) (defBody (topS 28)) (defScope (topS 28)) .none kV13 dc13 pm13 an13 cd13 ct13), sl13⟩) (c13 : PySem.W.codeIn K cd13 "_law_text" = true) (k13 : PySem.W.keepIn K (.ref f13) = true)
    (a14 : PySem.W.nsIn K mainGlobals "law" = some (some (.ref f14))) (l14 : K.lookup f14 = some ⟨oc14, od14, .func (PySem.W.fnOf "law" "law" (defArgs (topS 29)) (defBody (topS 29)) (defScope (topS 29)) .none kV14 dc14 pm14 an14 cd14 ct14), sl14⟩) (c14 : PySem.W.codeIn K cd14 "law" = true) (k14 : PySem.W.keepIn K (.ref f14) = true)
    (h0 : PySem.W.nsIn K mainGlobals "MAX_DIGITS" = some (some (.int (12) gt1)))
    (h1 : PySem.W.nsIn K mainGlobals "MAX_NAME" = some (some (.int (10) gt2)))
    (h2 : PySem.W.nsIn K mainGlobals "MAX_TEXT" = some (some (.int (4000) gt3)))
    (h3 : PySem.W.nsIn K mainGlobals "LETTERS" = some (some (.str "abcdefghijklmnopqrstuvwxyz" gt4)))
    (h4 : PySem.W.nsIn K mainGlobals "DIGITS" = some (some (.str "0123456789" gt5)))
    (h5 : PySem.W.nsIn K mainGlobals "SIGNS" = some (some (.str ";,()/-#." gt6)))
    (z0 : PySem.W.nsIn K mainGlobals "ValueError" = some none)
    (z1 : PySem.W.nsIn K mainGlobals "abs" = some none)
    (z2 : PySem.W.nsIn K mainGlobals "int" = some none)
    (z3 : PySem.W.nsIn K mainGlobals "isinstance" = some none)
    (z4 : PySem.W.nsIn K mainGlobals "len" = some none)
    (z5 : PySem.W.nsIn K mainGlobals "list" = some none)
    (z6 : PySem.W.nsIn K mainGlobals "range" = some none)
    (z7 : PySem.W.nsIn K mainGlobals "repr" = some none)
    (z8 : PySem.W.nsIn K mainGlobals "str" = some none)
    (z9 : PySem.W.nsIn K mainGlobals "tuple" = some none)
    (yn0 : PySem.W.nsIn K mainGlobals "RollError" = some (some (.ref y0)))
    (yn1 : PySem.W.nsIn K mainGlobals "TextError" = some (some (.ref y1)))
    (yn2 : PySem.W.nsIn K mainGlobals "ArgumentError" = some (some (.ref y2)))
    (yn3 : PySem.W.nsIn K mainGlobals "LandError" = some (some (.ref y3)))
    (yn4 : PySem.W.nsIn K mainGlobals "PaperError" = some (some (.ref y4)))
    (yn5 : PySem.W.nsIn K mainGlobals "TooMany" = some (some (.ref y5)))
    (yhn : PySem.W.specialIn K (.builtin "object.__class__") "__get__" = some (some (.builtin "getset_descriptor.__get__")))
    (yht : PySem.W.takesIn K (.builtin "object.__class__") = some true)
    (ycl0 : PySem.W.isClsIn K y0 = true)
    (yty0 : PySem.W.typeIn K (.ref y0) = some (.type "type"))
    (yga0 : PySem.W.findIn K (.ref y0) "__getattribute__" = some (some (.builtin "BaseException.__getattribute__")))
    (ygg0 : PySem.W.findIn K (.ref y0) "__getattr__" = some none)
    (yex0 : PySem.W.subIn K (.ref y0) (.type "BaseException") = some true)
    (yha0 : PySem.W.findIn K (.ref y0) "__class__" = some (some (.builtin "object.__class__")))
    (yhm0 : PySem.W.mroIn K y0 (.type "object") = some true)
    (yhd0 : PySem.W.hasDictIn K y0 = true)
    (yno0 : PySem.W.findIn K (.ref y0) "reason" = some none)
    (yki0 : PySem.W.subIn K (.ref y0) (.type "ValueError") = some true)
    (ysb0_0 : PySem.W.subIn K (.ref y0) (.ref y0) = some true)
    (ysb0_1 : PySem.W.subIn K (.ref y0) (.ref y1) = some false)
    (ysb0_2 : PySem.W.subIn K (.ref y0) (.ref y2) = some false)
    (ysb0_3 : PySem.W.subIn K (.ref y0) (.ref y3) = some false)
    (ysb0_4 : PySem.W.subIn K (.ref y0) (.ref y4) = some false)
    (ysb0_5 : PySem.W.subIn K (.ref y0) (.ref y5) = some false)
    (ycl1 : PySem.W.isClsIn K y1 = true)
    (yty1 : PySem.W.typeIn K (.ref y1) = some (.type "type"))
    (yga1 : PySem.W.findIn K (.ref y1) "__getattribute__" = some (some (.builtin "BaseException.__getattribute__")))
    (ygg1 : PySem.W.findIn K (.ref y1) "__getattr__" = some none)
    (yex1 : PySem.W.subIn K (.ref y1) (.type "BaseException") = some true)
    (yha1 : PySem.W.findIn K (.ref y1) "__class__" = some (some (.builtin "object.__class__")))
    (yhm1 : PySem.W.mroIn K y1 (.type "object") = some true)
    (yhd1 : PySem.W.hasDictIn K y1 = true)
    (yno1 : PySem.W.findIn K (.ref y1) "at" = some none)
    (yki1 : PySem.W.subIn K (.ref y1) (.type "ValueError") = some true)
    (ysb1_0 : PySem.W.subIn K (.ref y1) (.ref y0) = some true)
    (ysb1_1 : PySem.W.subIn K (.ref y1) (.ref y1) = some true)
    (ysb1_2 : PySem.W.subIn K (.ref y1) (.ref y2) = some false)
    (ysb1_3 : PySem.W.subIn K (.ref y1) (.ref y3) = some false)
    (ysb1_4 : PySem.W.subIn K (.ref y1) (.ref y4) = some false)
    (ysb1_5 : PySem.W.subIn K (.ref y1) (.ref y5) = some false)
    (ycl2 : PySem.W.isClsIn K y2 = true)
    (yty2 : PySem.W.typeIn K (.ref y2) = some (.type "type"))
    (yga2 : PySem.W.findIn K (.ref y2) "__getattribute__" = some (some (.builtin "BaseException.__getattribute__")))
    (ygg2 : PySem.W.findIn K (.ref y2) "__getattr__" = some none)
    (yex2 : PySem.W.subIn K (.ref y2) (.type "BaseException") = some true)
    (yha2 : PySem.W.findIn K (.ref y2) "__class__" = some (some (.builtin "object.__class__")))
    (yhm2 : PySem.W.mroIn K y2 (.type "object") = some true)
    (yhd2 : PySem.W.hasDictIn K y2 = true)
    (yno2 : PySem.W.findIn K (.ref y2) "reason" = some none)
    (yki2 : PySem.W.subIn K (.ref y2) (.type "ValueError") = some true)
    (ysb2_0 : PySem.W.subIn K (.ref y2) (.ref y0) = some true)
    (ysb2_1 : PySem.W.subIn K (.ref y2) (.ref y1) = some false)
    (ysb2_2 : PySem.W.subIn K (.ref y2) (.ref y2) = some true)
    (ysb2_3 : PySem.W.subIn K (.ref y2) (.ref y3) = some false)
    (ysb2_4 : PySem.W.subIn K (.ref y2) (.ref y4) = some false)
    (ysb2_5 : PySem.W.subIn K (.ref y2) (.ref y5) = some false)
    (ycl3 : PySem.W.isClsIn K y3 = true)
    (yty3 : PySem.W.typeIn K (.ref y3) = some (.type "type"))
    (yga3 : PySem.W.findIn K (.ref y3) "__getattribute__" = some (some (.builtin "BaseException.__getattribute__")))
    (ygg3 : PySem.W.findIn K (.ref y3) "__getattr__" = some none)
    (yex3 : PySem.W.subIn K (.ref y3) (.type "BaseException") = some true)
    (yha3 : PySem.W.findIn K (.ref y3) "__class__" = some (some (.builtin "object.__class__")))
    (yhm3 : PySem.W.mroIn K y3 (.type "object") = some true)
    (yhd3 : PySem.W.hasDictIn K y3 = true)
    (yno3 : PySem.W.findIn K (.ref y3) "reason" = some none)
    (yki3 : PySem.W.subIn K (.ref y3) (.type "ValueError") = some true)
    (ysb3_0 : PySem.W.subIn K (.ref y3) (.ref y0) = some true)
    (ysb3_1 : PySem.W.subIn K (.ref y3) (.ref y1) = some false)
    (ysb3_2 : PySem.W.subIn K (.ref y3) (.ref y2) = some false)
    (ysb3_3 : PySem.W.subIn K (.ref y3) (.ref y3) = some true)
    (ysb3_4 : PySem.W.subIn K (.ref y3) (.ref y4) = some false)
    (ysb3_5 : PySem.W.subIn K (.ref y3) (.ref y5) = some false)
    (ycl4 : PySem.W.isClsIn K y4 = true)
    (yty4 : PySem.W.typeIn K (.ref y4) = some (.type "type"))
    (yga4 : PySem.W.findIn K (.ref y4) "__getattribute__" = some (some (.builtin "BaseException.__getattribute__")))
    (ygg4 : PySem.W.findIn K (.ref y4) "__getattr__" = some none)
    (yex4 : PySem.W.subIn K (.ref y4) (.type "BaseException") = some true)
    (yha4 : PySem.W.findIn K (.ref y4) "__class__" = some (some (.builtin "object.__class__")))
    (yhm4 : PySem.W.mroIn K y4 (.type "object") = some true)
    (yhd4 : PySem.W.hasDictIn K y4 = true)
    (yno4 : PySem.W.findIn K (.ref y4) "reason" = some none)
    (yki4 : PySem.W.subIn K (.ref y4) (.type "ValueError") = some true)
    (ysb4_0 : PySem.W.subIn K (.ref y4) (.ref y0) = some true)
    (ysb4_1 : PySem.W.subIn K (.ref y4) (.ref y1) = some false)
    (ysb4_2 : PySem.W.subIn K (.ref y4) (.ref y2) = some false)
    (ysb4_3 : PySem.W.subIn K (.ref y4) (.ref y3) = some false)
    (ysb4_4 : PySem.W.subIn K (.ref y4) (.ref y4) = some true)
    (ysb4_5 : PySem.W.subIn K (.ref y4) (.ref y5) = some false)
    (ycl5 : PySem.W.isClsIn K y5 = true)
    (yty5 : PySem.W.typeIn K (.ref y5) = some (.type "type"))
    (yga5 : PySem.W.findIn K (.ref y5) "__getattribute__" = some (some (.builtin "BaseException.__getattribute__")))
    (ygg5 : PySem.W.findIn K (.ref y5) "__getattr__" = some none)
    (yex5 : PySem.W.subIn K (.ref y5) (.type "BaseException") = some true)
    (yha5 : PySem.W.findIn K (.ref y5) "__class__" = some (some (.builtin "object.__class__")))
    (yhm5 : PySem.W.mroIn K y5 (.type "object") = some true)
    (yhd5 : PySem.W.hasDictIn K y5 = true)
    (yno5 : PySem.W.findIn K (.ref y5) "reason" = some none)
    (yki5 : PySem.W.subIn K (.ref y5) (.type "ValueError") = some true)
    (ysb5_0 : PySem.W.subIn K (.ref y5) (.ref y0) = some true)
    (ysb5_1 : PySem.W.subIn K (.ref y5) (.ref y1) = some false)
    (ysb5_2 : PySem.W.subIn K (.ref y5) (.ref y2) = some false)
    (ysb5_3 : PySem.W.subIn K (.ref y5) (.ref y3) = some false)
    (ysb5_4 : PySem.W.subIn K (.ref y5) (.ref y4) = some false)
    (ysb5_5 : PySem.W.subIn K (.ref y5) (.ref y5) = some true)
    (ysu : PySem.W.nsIn K mainGlobals "super" = some none)
    (yop : PySem.W.nsIn K cStatics "thirdparty.any" = some none)
    (yto : (PySem.Challenge.pw_oneplainroll_k50_lexing.main.scope.names.lookup ("super" : Str)).isSome = false)
    (yC_1 : K.lookup y1 = some (excClassObj ynm_1 yq_1 y1 yN_1 ybs_1 ybm_1 true ysn_1 ysb_1 yab_1 yco_1 ydd_1 ya0_1 ya1_1 ya2_1 ya3_1 ya5_1 "ValueError.__new__"))
    (yB_1 : PySem.HandSPX.refsVE ybm_1 = true)
    (ysa_1 : PySem.W.findIn K (.ref y1) "__setattr__" = some (some (.builtin "object.__setattr__")))
    (yiC_1 : PySem.W.findIn K (.ref y1) "__init__" = some (some (.ref yfi_1)))
    (ytC_1 : PySem.W.typeIn K (.ref yfi_1) = some (.type "function"))
    (ykC_1 : PySem.W.keepIn K (.ref y1) = true)
    (ymC_1 : PySem.W.mroIn K y1 (.ref y1) = some true)
    (yal_1 : PySem.W.ks_superIn K y1 y1 "__init__" = some (some (.builtin "ValueError.__init__")))
    (yl_1 : K.lookup yfi_1 = some ⟨yoc_1, yod_1, .func (PySem.W.ksFn "__init__" yqu_1 (PySem.SupX.iA "at" yp1_1 yp2_1) (PySem.SupX.iB "at" ymm_1 ykk_1 yq1_1 yq2_1 yq3_1 yq4_1 yq5_1 yq6_1 yq7_1 yq8_1 yq9_1 yq10_1) (PySem.SupX.iS "at") .none .none ydo_1 ypm_1 yan_1 (.ref yda_1) yct_1 ycc_1), yos_1⟩)
    (ycd_1 : PySem.W.codeIn K (.ref yda_1) yqu_1 = true)
    (yln_1 : (yq3_1.endLine == yq5_1.line) = true)
    (ylk_1 : K.lookup yda_1 = some ⟨yccl_1, ycdd_1, .fields yvs_1, yccs_1⟩)
    (ylf_1 : yvs_1[2]? = some (.str yfl_1 ytf_1))
    (yle_1 : ((PySem.Challenge.pw_oneplainroll_k50_lexing.main.file : Str) == yfl_1) = true)
    (yce_1 : K.lookup ycc_1 = some ⟨ylc_1, ycld_1, .cell (some (.ref y1)), ycsl_1⟩)
    (yC_2 : K.lookup y2 = some (excClassObj ynm_2 yq_2 y2 yN_2 ybs_2 ybm_2 true ysn_2 ysb_2 yab_2 yco_2 ydd_2 ya0_2 ya1_2 ya2_2 ya3_2 ya5_2 "ValueError.__new__"))
    (yB_2 : PySem.HandSPX.refsVE ybm_2 = true)
    (ysa_2 : PySem.W.findIn K (.ref y2) "__setattr__" = some (some (.builtin "object.__setattr__")))
    (yiC_2 : PySem.W.findIn K (.ref y2) "__init__" = some (some (.ref yfi_2)))
    (ytC_2 : PySem.W.typeIn K (.ref yfi_2) = some (.type "function"))
    (ykC_2 : PySem.W.keepIn K (.ref y2) = true)
    (ymC_2 : PySem.W.mroIn K y2 (.ref y2) = some true)
    (yal_2 : PySem.W.ks_superIn K y2 y2 "__init__" = some (some (.builtin "ValueError.__init__")))
    (yl_2 : K.lookup yfi_2 = some ⟨yoc_2, yod_2, .func (PySem.W.ksFn "__init__" yqu_2 (PySem.SupX.iA "reason" yp1_2 yp2_2) (PySem.SupX.iB "reason" ymm_2 ykk_2 yq1_2 yq2_2 yq3_2 yq4_2 yq5_2 yq6_2 yq7_2 yq8_2 yq9_2 yq10_2) (PySem.SupX.iS "reason") .none .none ydo_2 ypm_2 yan_2 (.ref yda_2) yct_2 ycc_2), yos_2⟩)
    (ycd_2 : PySem.W.codeIn K (.ref yda_2) yqu_2 = true)
    (yln_2 : (yq3_2.endLine == yq5_2.line) = true)
    (ylk_2 : K.lookup yda_2 = some ⟨yccl_2, ycdd_2, .fields yvs_2, yccs_2⟩)
    (ylf_2 : yvs_2[2]? = some (.str yfl_2 ytf_2))
    (yle_2 : ((PySem.Challenge.pw_oneplainroll_k50_lexing.main.file : Str) == yfl_2) = true)
    (yce_2 : K.lookup ycc_2 = some ⟨ylc_2, ycld_2, .cell (some (.ref y2)), ycsl_2⟩) :
    ∃ (fs : List (Addr × FuncData)) (cs : List Addr), Paired (DefR K) rows fs ∧ Paired (GlbR K) tb.gls gs ∧ Paired (fun x a => PySem.W.nsIn K mainGlobals x = some (some (.ref a))) tb.cls cs ∧ (∀ y ∈ tb.blt, PySem.W.nsIn K mainGlobals y = some none) ∧ (∀ k, k < tb.cls.length → ClsR K PySem.Challenge.pw_oneplainroll_k50_lexing tb cs k (cs.getD k 0) (tb.flds.getD k default)) ∧ ∀ p, fs[14]? = some p → ∀ (s : Shared) (u : Value), BindsTo s p.2 ⟨[u], []⟩ [("script", u)] := by
  have r0 := defR_mk (r := ⟨"tokens_of", topS 14, n0, ["text"], ⟨1, 1, b0, false⟩⟩) a0 l0 c0 k0 fun _ _ _ _ _ _ us hl => match us, hl with | [_], _ => rfl
  have r1 := defR_mk (r := ⟨"check_text", topS 15, n1, ["text"], ⟨1, 1, b1, false⟩⟩) a1 l1 c1 k1 fun _ _ _ _ _ _ us hl => match us, hl with | [_], _ => rfl
  have r2 := defR_mk (r := ⟨"cut", topS 16, n2, ["text"], ⟨1, 6, b2, false⟩⟩) a2 l2 c2 k2 fun _ _ _ _ _ _ us hl => match us, hl with | [_], _ => rfl
  have r3 := defR_mk (r := ⟨"token_at", topS 17, n3, ["text", "at"], ⟨2, 3, b3, false⟩⟩) a3 l3 c3 k3 fun _ _ _ _ _ _ us hl => match us, hl with | [_, _], _ => rfl
  have r4 := defR_mk (r := ⟨"run_end", topS 18, n4, ["text", "at", "signs"], ⟨3, 3, b4, false⟩⟩) a4 l4 c4 k4 fun _ _ _ _ _ _ us hl => match us, hl with | [_, _, _], _ => rfl
  have r5 := defR_mk (r := ⟨"_law_start", topS 20, n5, ["script"], ⟨1, 3, b5, false⟩⟩) a5 l5 c5 k5 fun _ _ _ _ _ _ us hl => match us, hl with | [_], _ => rfl
  have r6 := defR_mk (r := ⟨"_law_draw", topS 21, n6, ["state", "many"], ⟨2, 3, b6, false⟩⟩) a6 l6 c6 k6 fun _ _ _ _ _ _ us hl => match us, hl with | [_, _], _ => rfl
  have r7 := defR_mk (r := ⟨"_law_pick", topS 22, n7, ["state", "some"], ⟨2, 2, b7, false⟩⟩) a7 l7 c7 k7 fun _ _ _ _ _ _ us hl => match us, hl with | [_, _], _ => rfl
  have r8 := defR_mk (r := ⟨"_law_same", topS 23, n8, ["actual", "due"], ⟨2, 2, b8, false⟩⟩) a8 l8 c8 k8 fun _ _ _ _ _ _ us hl => match us, hl with | [_, _], _ => rfl
  have r9 := defR_mk (r := ⟨"_law_word", topS 24, n9, ["error"], ⟨1, 3, b9, true⟩⟩) a9 l9 c9 k9 fun _ _ _ _ _ _ us hl => match us, hl with | [_], _ => rfl
  have r10 := defR_mk (r := ⟨"_law_called", topS 25, n10, ["call", "some"], ⟨2, 2, b10, false⟩⟩) a10 l10 c10 k10 fun _ _ _ _ _ _ us hl => match us, hl with | [_, _], _ => rfl
  have r11 := defR_mk (r := ⟨"_law_asked", topS 26, n11, ["call", "some"], ⟨2, 3, b11, false⟩⟩) a11 l11 c11 k11 fun _ _ _ _ _ _ us hl => match us, hl with | [_, _], _ => rfl
  have r12 := defR_mk (r := ⟨"_law_cut", topS 27, n12, ["text"], ⟨1, 5, b12, false⟩⟩) a12 l12 c12 k12 fun _ _ _ _ _ _ us hl => match us, hl with | [_], _ => rfl
  have r13 := defR_mk (r := ⟨"_law_text", topS 28, n13, ["state"], ⟨1, 5, b13, false⟩⟩) a13 l13 c13 k13 fun _ _ _ _ _ _ us hl => match us, hl with | [_], _ => rfl
  have r14 := defR_mk (r := ⟨"law", topS 29, n14, ["script"], ⟨1, 6, b14, false⟩⟩) a14 l14 c14 k14 fun _ _ _ _ _ _ us hl => match us, hl with | [_], _ => rfl
  have yr0 : ClsR K PySem.Challenge.pw_oneplainroll_k50_lexing tb [y0, y1, y2, y3, y4, y5] 0 y0 "reason" := by
    refine ⟨fun p hp => ?_, fun p hp => ?_, kit_val yki0, ⟨ycl0, yga0, ygg0, yex0, yha0, yhn, yht, yhm0, yhd0, yno0⟩, ?_⟩
    · have hp : p ∈ ([(0, [0, 1, 2, 3, 4, 5]), (1, [1]), (2, [2]), (3, [3]), (4, [4]), (5, [5])] : List (Nat × List Nat)) := hp
      simp only [List.mem_cons, List.not_mem_nil, or_false] at hp
      rcases hp with rfl | rfl | rfl | rfl | rfl | rfl
      · exact kit_sub ycl0 yty0 ysb0_0 ysb0_0
      · exact kit_sub ycl1 yty1 ysb1_1 ysb0_1
      · exact kit_sub ycl2 yty2 ysb2_2 ysb0_2
      · exact kit_sub ycl3 yty3 ysb3_3 ysb0_3
      · exact kit_sub ycl4 yty4 ysb4_4 ysb0_4
      · exact kit_sub ycl5 yty5 ysb5_5 ysb0_5
    · have hp : p ∈ ([(0, [0, 1, 2, 3, 4, 5]), (1, [1]), (2, [2]), (3, [3]), (4, [4]), (5, [5])] : List (Nat × List Nat)) := hp
      simp only [List.mem_cons, List.not_mem_nil, or_false] at hp
      rcases hp with rfl | rfl | rfl | rfl | rfl | rfl
      · exact exm_sub yex0 ycl0 yty0 ysb0_0
      · exact exm_sub yex1 ycl1 yty1 ysb0_1
      · exact exm_sub yex2 ycl2 yty2 ysb0_2
      · exact exm_sub yex3 ycl3 yty3 ysb0_3
      · exact exm_sub yex4 ycl4 yty4 ysb0_4
      · exact exm_sub yex5 ycl5 yty5 ysb0_5
    · exact fun h => absurd h (by decide)
  have yr1 : ClsR K PySem.Challenge.pw_oneplainroll_k50_lexing tb [y0, y1, y2, y3, y4, y5] 1 y1 "at" := by
    refine ⟨fun p hp => ?_, fun p hp => ?_, kit_val yki1, ⟨ycl1, yga1, ygg1, yex1, yha1, yhn, yht, yhm1, yhd1, yno1⟩, ?_⟩
    · have hp : p ∈ ([(0, [0, 1, 2, 3, 4, 5]), (1, [1]), (2, [2]), (3, [3]), (4, [4]), (5, [5])] : List (Nat × List Nat)) := hp
      simp only [List.mem_cons, List.not_mem_nil, or_false] at hp
      rcases hp with rfl | rfl | rfl | rfl | rfl | rfl
      · exact kit_sub ycl0 yty0 ysb0_0 ysb1_0
      · exact kit_sub ycl1 yty1 ysb1_1 ysb1_1
      · exact kit_sub ycl2 yty2 ysb2_2 ysb1_2
      · exact kit_sub ycl3 yty3 ysb3_3 ysb1_3
      · exact kit_sub ycl4 yty4 ysb4_4 ysb1_4
      · exact kit_sub ycl5 yty5 ysb5_5 ysb1_5
    · have hp : p ∈ ([(0, [0, 1, 2, 3, 4, 5]), (1, [1]), (2, [2]), (3, [3]), (4, [4]), (5, [5])] : List (Nat × List Nat)) := hp
      simp only [List.mem_cons, List.not_mem_nil, or_false] at hp
      rcases hp with rfl | rfl | rfl | rfl | rfl | rfl
      · exact exm_sub yex0 ycl0 yty0 ysb1_0
      · exact exm_sub yex1 ycl1 yty1 ysb1_1
      · exact exm_sub yex2 ycl2 yty2 ysb1_2
      · exact exm_sub yex3 ycl3 yty3 ysb1_3
      · exact exm_sub yex4 ycl4 yty4 ysb1_4
      · exact exm_sub yex5 ycl5 yty5 ysb1_5
    · exact fun _ => ⟨PySem.SupX.nf_of (.inr (.inl rfl)), _, PySem.SupX.supTxt_mk yC_1 yB_1 ysa_1 yno1 yiC_1 ytC_1 ykC_1 yex1 yty1 yki1 ymC_1 yal_1 ysu yop yto yl_1 ycd_1 yln_1 ylk_1 ylf_1 yle_1 yce_1⟩
  have yr2 : ClsR K PySem.Challenge.pw_oneplainroll_k50_lexing tb [y0, y1, y2, y3, y4, y5] 2 y2 "reason" := by
    refine ⟨fun p hp => ?_, fun p hp => ?_, kit_val yki2, ⟨ycl2, yga2, ygg2, yex2, yha2, yhn, yht, yhm2, yhd2, yno2⟩, ?_⟩
    · have hp : p ∈ ([(0, [0, 1, 2, 3, 4, 5]), (1, [1]), (2, [2]), (3, [3]), (4, [4]), (5, [5])] : List (Nat × List Nat)) := hp
      simp only [List.mem_cons, List.not_mem_nil, or_false] at hp
      rcases hp with rfl | rfl | rfl | rfl | rfl | rfl
      · exact kit_sub ycl0 yty0 ysb0_0 ysb2_0
      · exact kit_sub ycl1 yty1 ysb1_1 ysb2_1
      · exact kit_sub ycl2 yty2 ysb2_2 ysb2_2
      · exact kit_sub ycl3 yty3 ysb3_3 ysb2_3
      · exact kit_sub ycl4 yty4 ysb4_4 ysb2_4
      · exact kit_sub ycl5 yty5 ysb5_5 ysb2_5
    · have hp : p ∈ ([(0, [0, 1, 2, 3, 4, 5]), (1, [1]), (2, [2]), (3, [3]), (4, [4]), (5, [5])] : List (Nat × List Nat)) := hp
      simp only [List.mem_cons, List.not_mem_nil, or_false] at hp
      rcases hp with rfl | rfl | rfl | rfl | rfl | rfl
      · exact exm_sub yex0 ycl0 yty0 ysb2_0
      · exact exm_sub yex1 ycl1 yty1 ysb2_1
      · exact exm_sub yex2 ycl2 yty2 ysb2_2
      · exact exm_sub yex3 ycl3 yty3 ysb2_3
      · exact exm_sub yex4 ycl4 yty4 ysb2_4
      · exact exm_sub yex5 ycl5 yty5 ysb2_5
    · exact fun _ => ⟨PySem.SupX.nf_of (.inl rfl), _, PySem.SupX.supTxt_mk yC_2 yB_2 ysa_2 yno2 yiC_2 ytC_2 ykC_2 yex2 yty2 yki2 ymC_2 yal_2 ysu yop yto yl_2 ycd_2 yln_2 ylk_2 ylf_2 yle_2 yce_2⟩
  have yr3 : ClsR K PySem.Challenge.pw_oneplainroll_k50_lexing tb [y0, y1, y2, y3, y4, y5] 3 y3 "reason" := by
    refine ⟨fun p hp => ?_, fun p hp => ?_, kit_val yki3, ⟨ycl3, yga3, ygg3, yex3, yha3, yhn, yht, yhm3, yhd3, yno3⟩, ?_⟩
    · have hp : p ∈ ([(0, [0, 1, 2, 3, 4, 5]), (1, [1]), (2, [2]), (3, [3]), (4, [4]), (5, [5])] : List (Nat × List Nat)) := hp
      simp only [List.mem_cons, List.not_mem_nil, or_false] at hp
      rcases hp with rfl | rfl | rfl | rfl | rfl | rfl
      · exact kit_sub ycl0 yty0 ysb0_0 ysb3_0
      · exact kit_sub ycl1 yty1 ysb1_1 ysb3_1
      · exact kit_sub ycl2 yty2 ysb2_2 ysb3_2
      · exact kit_sub ycl3 yty3 ysb3_3 ysb3_3
      · exact kit_sub ycl4 yty4 ysb4_4 ysb3_4
      · exact kit_sub ycl5 yty5 ysb5_5 ysb3_5
    · have hp : p ∈ ([(0, [0, 1, 2, 3, 4, 5]), (1, [1]), (2, [2]), (3, [3]), (4, [4]), (5, [5])] : List (Nat × List Nat)) := hp
      simp only [List.mem_cons, List.not_mem_nil, or_false] at hp
      rcases hp with rfl | rfl | rfl | rfl | rfl | rfl
      · exact exm_sub yex0 ycl0 yty0 ysb3_0
      · exact exm_sub yex1 ycl1 yty1 ysb3_1
      · exact exm_sub yex2 ycl2 yty2 ysb3_2
      · exact exm_sub yex3 ycl3 yty3 ysb3_3
      · exact exm_sub yex4 ycl4 yty4 ysb3_4
      · exact exm_sub yex5 ycl5 yty5 ysb3_5
    · exact fun h => absurd h (by decide)
  have yr4 : ClsR K PySem.Challenge.pw_oneplainroll_k50_lexing tb [y0, y1, y2, y3, y4, y5] 4 y4 "reason" := by
    refine ⟨fun p hp => ?_, fun p hp => ?_, kit_val yki4, ⟨ycl4, yga4, ygg4, yex4, yha4, yhn, yht, yhm4, yhd4, yno4⟩, ?_⟩
    · have hp : p ∈ ([(0, [0, 1, 2, 3, 4, 5]), (1, [1]), (2, [2]), (3, [3]), (4, [4]), (5, [5])] : List (Nat × List Nat)) := hp
      simp only [List.mem_cons, List.not_mem_nil, or_false] at hp
      rcases hp with rfl | rfl | rfl | rfl | rfl | rfl
      · exact kit_sub ycl0 yty0 ysb0_0 ysb4_0
      · exact kit_sub ycl1 yty1 ysb1_1 ysb4_1
      · exact kit_sub ycl2 yty2 ysb2_2 ysb4_2
      · exact kit_sub ycl3 yty3 ysb3_3 ysb4_3
      · exact kit_sub ycl4 yty4 ysb4_4 ysb4_4
      · exact kit_sub ycl5 yty5 ysb5_5 ysb4_5
    · have hp : p ∈ ([(0, [0, 1, 2, 3, 4, 5]), (1, [1]), (2, [2]), (3, [3]), (4, [4]), (5, [5])] : List (Nat × List Nat)) := hp
      simp only [List.mem_cons, List.not_mem_nil, or_false] at hp
      rcases hp with rfl | rfl | rfl | rfl | rfl | rfl
      · exact exm_sub yex0 ycl0 yty0 ysb4_0
      · exact exm_sub yex1 ycl1 yty1 ysb4_1
      · exact exm_sub yex2 ycl2 yty2 ysb4_2
      · exact exm_sub yex3 ycl3 yty3 ysb4_3
      · exact exm_sub yex4 ycl4 yty4 ysb4_4
      · exact exm_sub yex5 ycl5 yty5 ysb4_5
    · exact fun h => absurd h (by decide)
  have yr5 : ClsR K PySem.Challenge.pw_oneplainroll_k50_lexing tb [y0, y1, y2, y3, y4, y5] 5 y5 "reason" := by
    refine ⟨fun p hp => ?_, fun p hp => ?_, kit_val yki5, ⟨ycl5, yga5, ygg5, yex5, yha5, yhn, yht, yhm5, yhd5, yno5⟩, ?_⟩
    · have hp : p ∈ ([(0, [0, 1, 2, 3, 4, 5]), (1, [1]), (2, [2]), (3, [3]), (4, [4]), (5, [5])] : List (Nat × List Nat)) := hp
      simp only [List.mem_cons, List.not_mem_nil, or_false] at hp
      rcases hp with rfl | rfl | rfl | rfl | rfl | rfl
      · exact kit_sub ycl0 yty0 ysb0_0 ysb5_0
      · exact kit_sub ycl1 yty1 ysb1_1 ysb5_1
      · exact kit_sub ycl2 yty2 ysb2_2 ysb5_2
      · exact kit_sub ycl3 yty3 ysb3_3 ysb5_3
      · exact kit_sub ycl4 yty4 ysb4_4 ysb5_4
      · exact kit_sub ycl5 yty5 ysb5_5 ysb5_5
    · have hp : p ∈ ([(0, [0, 1, 2, 3, 4, 5]), (1, [1]), (2, [2]), (3, [3]), (4, [4]), (5, [5])] : List (Nat × List Nat)) := hp
      simp only [List.mem_cons, List.not_mem_nil, or_false] at hp
      rcases hp with rfl | rfl | rfl | rfl | rfl | rfl
      · exact exm_sub yex0 ycl0 yty0 ysb5_0
      · exact exm_sub yex1 ycl1 yty1 ysb5_1
      · exact exm_sub yex2 ycl2 yty2 ysb5_2
      · exact exm_sub yex3 ycl3 yty3 ysb5_3
      · exact exm_sub yex4 ycl4 yty4 ysb5_4
      · exact exm_sub yex5 ycl5 yty5 ysb5_5
    · exact fun h => absurd h (by decide)
  refine ⟨_, [y0, y1, y2, y3, y4, y5], (.cons r0 (.cons r1 (.cons r2 (.cons r3 (.cons r4 (.cons r5 (.cons r6 (.cons r7 (.cons r8 (.cons r9 (.cons r10 (.cons r11 (.cons r12 (.cons r13 (.cons r14 .nil))))))))))))))), (.cons ⟨⟨(.int (12)), (.int (12) gt1), h0, ⟨_, rfl⟩, fun G H N e => (.int _)⟩⟩ (.cons ⟨⟨(.int (10)), (.int (10) gt2), h1, ⟨_, rfl⟩, fun G H N e => (.int _)⟩⟩ (.cons ⟨⟨(.int (4000)), (.int (4000) gt3), h2, ⟨_, rfl⟩, fun G H N e => (.int _)⟩⟩ (.cons ⟨⟨(.str "abcdefghijklmnopqrstuvwxyz"), (.str "abcdefghijklmnopqrstuvwxyz" gt4), h3, ⟨_, rfl⟩, fun G H N e => (.str _)⟩⟩ (.cons ⟨⟨(.str "0123456789"), (.str "0123456789" gt5), h4, ⟨_, rfl⟩, fun G H N e => (.str _)⟩⟩ (.cons ⟨⟨(.str ";,()/-#."), (.str ";,()/-#." gt6), h5, ⟨_, rfl⟩, fun G H N e => (.str _)⟩⟩ .nil)))))), (.cons yn0 (.cons yn1 (.cons yn2 (.cons yn3 (.cons yn4 (.cons yn5 .nil)))))), fun y hy => ?_, fun k hk => ?_, fun p hp s u => ?_⟩
  · have hy : y ∈ [("ValueError" : Str), ("abs" : Str), ("int" : Str), ("isinstance" : Str), ("len" : Str), ("list" : Str), ("range" : Str), ("repr" : Str), ("str" : Str), ("tuple" : Str)] := hy
    simp only [List.mem_cons, List.not_mem_nil, or_false] at hy
    rcases hy with e | e | e | e | e | e | e | e | e | e
    · rw [e]; exact z0
    · rw [e]; exact z1
    · rw [e]; exact z2
    · rw [e]; exact z3
    · rw [e]; exact z4
    · rw [e]; exact z5
    · rw [e]; exact z6
    · rw [e]; exact z7
    · rw [e]; exact z8
    · rw [e]; exact z9
  · match k, hk with
    | 0, _ => exact yr0
    | 1, _ => exact yr1
    | 2, _ => exact yr2
    | 3, _ => exact yr3
    | 4, _ => exact yr4
    | 5, _ => exact yr5
    | n + 6, hk => exact absurd (show n + 6 < 6 from hk) (by omega)
  · cases hp
    exact .of_eq rfl
end K50

set_option maxHeartbeats 2000000
/-! how the interpreter steps, as equations -/
namespace Mi
open PySem (Str Operator CmpOp)
section
variable (Fs : Fns) (Gs : List D) (W : Nat) (E : Env) (S : Store)
theorem e_kN : (sem Fs Gs .kN).ev E S = .ok (.d .non) S := rfl
theorem e_kB (b : Bool) : (sem Fs Gs (.kB b)).ev E S = .ok (.d (.bl b)) S := rfl
theorem e_kI (i : Int) : (sem Fs Gs (.kI i)).ev E S = .ok (.d (.int i)) S := rfl
theorem e_kS (x : Str) : (sem Fs Gs (.kS x)).ev E S = .ok (.d (.str x)) S := rfl
theorem e_var (i : Nat) : (sem Fs Gs (.var i)).ev E S = R.of (getV E i) S := rfl
theorem e_glb (g : Nat) : (sem Fs Gs (.glb g)).ev E S = R.of ((Gs[g]?).map .d) S := rfl
theorem e_fnv (f : Nat) : (sem Fs Gs (.fnv f)).ev E S = .ok (.d (.fn f)) S := rfl
theorem e_typ (n : String) : (sem Fs Gs (.typ n)).ev E S = .ok (.d (.ty n)) S := rfl
theorem e_neg (a : Ex) : (sem Fs Gs (.neg a)).ev E S = ((sem Fs Gs a).ev E S).bind fun v S1 => R.of ((v.peek S1).bind negD) S1 := rfl
theorem e_bin (op : Operator) (a b : Ex) : (sem Fs Gs (.bin op a b)).ev E S = ((sem Fs Gs a).ev E S).bind fun v S1 => ((sem Fs Gs b).ev E S1).bind fun u S2 => R.of ((v.peek S2).bind fun x => (u.peek S2).bind fun y => binD op x y) S2 := rfl
theorem e_cmp (op : CmpOp) (a b : Ex) : (sem Fs Gs (.cmp op a b)).ev E S = ((sem Fs Gs a).ev E S).bind fun v S1 => ((sem Fs Gs b).ev E S1).bind fun u S2 => R.of ((v.peek S2).bind fun x => (u.peek S2).bind fun y => cmpV op x y) S2 := rfl
theorem e_chn (o1 o2 : CmpOp) (a b c : Ex) : (sem Fs Gs (.chn o1 o2 a b c)).ev E S = chain o1 o2 (sem Fs Gs a) (sem Fs Gs b) (sem Fs Gs c) E S := rfl
theorem e_and (es : List Ex) : (sem Fs Gs (.andE es)).ev E S = evAnd (sems Fs Gs es) E S := rfl
theorem e_or (es : List Ex) : (sem Fs Gs (.orE es)).ev E S = evOr (sems Fs Gs es) E S := rfl
theorem e_not (a : Ex) : (sem Fs Gs (.notE a)).ev E S = ((sem Fs Gs a).ev E S).bind fun v S1 => R.of ((v.peek S1).bind notD) S1 := rfl
theorem e_ife (t a b : Ex) : (sem Fs Gs (.ife t a b)).ev E S = ((sem Fs Gs t).ts E S).bind fun c S1 => if c then (sem Fs Gs a).ev E S1 else (sem Fs Gs b).ev E S1 := rfl
theorem e_tup (es : List Ex) : (sem Fs Gs (.tup es)).ev E S = (evAll (sems Fs Gs es) E S).bind fun vs S1 => R.of ((strictAll vs).bind fun xs => if xs.length ≤ PySem.sizeLine then some (.d (.tup xs)) else none) S1 := rfl
theorem e_lst (es : List Ex) : (sem Fs Gs (.lst es)).ev E S = (evAll (sems Fs Gs es) E S).bind fun vs S1 => R.of ((strictAll vs).bind fun xs => if xs.length ≤ PySem.sizeLine then some (.own (.lst xs)) else none) S1 := rfl
theorem e_ix (a i : Ex) : (sem Fs Gs (.ix a i)).ev E S = ((sem Fs Gs a).ev E S).bind fun v S1 => ((sem Fs Gs i).ev E S1).bind fun u S2 => R.of ((v.peek S2).bind fun x => (u.peek S2).bind fun y => (ixD x y).map .d) S2 := rfl
theorem e_slc (a : Ex) (lo hi : Option Ex) : (sem Fs Gs (.slc a lo hi)).ev E S = ((sem Fs Gs a).ev E S).bind fun v S1 => (evPart (semo Fs Gs lo) E S1).bind fun l S2 => (evPart (semo Fs Gs hi) E S2).bind fun h S3 => R.of ((v.peek S3).bind fun x => slcD x l h) S3 := rfl
theorem e_call (f : Nat) (es : List Ex) : (sem Fs Gs (.call f es)).ev E S = (evAll (sems Fs Gs es) E S).bind fun vs S1 => (R.of (argsOf vs) S1).bind fun ws S1 => Fs f ws S1 := rfl
theorem e_bi (b : BI) (es : List Ex) : (sem Fs Gs (.bi b es)).ev E S = (evAll (sems Fs Gs es) E S).bind fun vs S1 => R.of ((peeks S1 vs).bind (biD b)) S1 := rfl
theorem e_mt (m : MT) (a : Ex) (es : List Ex) : (sem Fs Gs (.mt m a es)).ev E S = ((sem Fs Gs a).ev E S).bind fun x S1 => (R.of (recv m x S1) S1).bind fun _ S1 => (evAll (sems Fs Gs es) E S1).bind fun vs S2 => (R.of (strictAll vs) S2).bind fun xs S2 => mtV m x xs S2 := rfl
theorem e_lc (e : Ex) (tg : Tg) (it : Ex) (ifs : List Ex) (vs : List Nat) : (sem Fs Gs (.lc e tg it ifs vs)).ev E S = ((sem Fs Gs it).it E S).bind fun xs S1 => ((turns tg vs (tsAll (sems Fs Gs ifs)) (strict (sem Fs Gs e)) E xs [] S1).calm).bind fun ys S2 => .ok (.own (.lst ys)) S2 := rfl
theorem e_dc (k v : Ex) (tg : Tg) (it : Ex) (ifs : List Ex) (vs : List Nat) : (sem Fs Gs (.dc k v tg it ifs vs)).ev E S = ((sem Fs Gs it).it E S).bind fun xs S1 => ((turnsD tg vs (tsAll (sems Fs Gs ifs)) (strict2 (sem Fs Gs k) (sem Fs Gs v)) E xs ([], []) S1).calm).bind fun ys S2 => .ok (.own (.dct ys.1 ys.2)) S2 := rfl
theorem e_isE (i c : Nat) (subs : List Nat) : (sem Fs Gs (.isE i c subs)).ev E S = R.of ((errAt E i).map fun e => .d (.bl (subs.contains e.1))) S := rfl
theorem e_isV (i : Nat) : (sem Fs Gs (.isV i)).ev E S = R.of ((errAt E i).map fun _ => .d (.bl true)) S := rfl
theorem e_attr (i : Nat) (f : Str) (cs : List Nat) : (sem Fs Gs (.attr i f cs)).ev E S = R.of ((errAt E i).bind fun e => if cs.contains e.1 then some (.d e.2) else none) S := rfl
theorem e_dyn (i : Nat) (es : List Ex) : (sem Fs Gs (.dyn i es)).ev E S = match getV E i with
    | some (.d (.fn j)) => (evAll (sems Fs Gs es) E S).bind fun vs S1 => (R.of (argsOf vs) S1).bind fun ws S1 => Fs j ws S1
    | _ => .no := rfl
theorem e_pm (m : PM) (a : Ex) (es : List Ex) : (sem Fs Gs (.pm m a es)).ev E S = ((sem Fs Gs a).ev E S).bind fun v S1 => (R.of (v.dat.bind (recvP m)) S1).bind fun x S1 => (evAll (sems Fs Gs es) E S1).bind fun vs S2 => R.of ((peeks S2 vs).bind fun xs => pmD m x xs) S2 := rfl
theorem ra_0 (c : Nat) (a : D) : errAt (some (.err c a) :: E) 0 = some (c, a) := rfl
/-! tests -/
theorem t_isV (i : Nat) : (sem Fs Gs (.isV i)).ts E S = ((sem Fs Gs (.isV i)).ev E S).bind fun v S1 => R.of ((v.peek S1).bind truD) S1 := rfl
theorem t_isE (i c : Nat) (subs : List Nat) : (sem Fs Gs (.isE i c subs)).ts E S = ((sem Fs Gs (.isE i c subs)).ev E S).bind fun v S1 => R.of ((v.peek S1).bind truD) S1 := rfl
theorem t_dyn (i : Nat) (es : List Ex) : (sem Fs Gs (.dyn i es)).ts E S = ((sem Fs Gs (.dyn i es)).ev E S).bind fun v S1 => R.of ((v.peek S1).bind truD) S1 := rfl
theorem t_and (es : List Ex) : (sem Fs Gs (.andE es)).ts E S = tsAnd (sems Fs Gs es) E S := rfl
theorem t_or (es : List Ex) : (sem Fs Gs (.orE es)).ts E S = tsOr (sems Fs Gs es) E S := rfl
theorem t_not (a : Ex) : (sem Fs Gs (.notE a)).ts E S = ((sem Fs Gs a).ts E S).bind fun b S1 => .ok (!b) S1 := rfl
theorem t_var (i : Nat) : (sem Fs Gs (.var i)).ts E S = ((sem Fs Gs (.var i)).ev E S).bind fun v S1 => R.of ((v.peek S1).bind truD) S1 := rfl
theorem t_cmp (op : CmpOp) (a b : Ex) : (sem Fs Gs (.cmp op a b)).ts E S = ((sem Fs Gs (.cmp op a b)).ev E S).bind fun v S1 => R.of ((v.peek S1).bind truD) S1 := rfl
theorem t_chn (o1 o2 : CmpOp) (a b c : Ex) : (sem Fs Gs (.chn o1 o2 a b c)).ts E S = ((sem Fs Gs (.chn o1 o2 a b c)).ev E S).bind fun v S1 => R.of ((v.peek S1).bind truD) S1 := rfl
theorem t_call (f : Nat) (es : List Ex) : (sem Fs Gs (.call f es)).ts E S = ((sem Fs Gs (.call f es)).ev E S).bind fun v S1 => R.of ((v.peek S1).bind truD) S1 := rfl
theorem t_bi (b : BI) (es : List Ex) : (sem Fs Gs (.bi b es)).ts E S = ((sem Fs Gs (.bi b es)).ev E S).bind fun v S1 => R.of ((v.peek S1).bind truD) S1 := rfl
theorem t_ix (a b : Ex) : (sem Fs Gs (.ix a b)).ts E S = ((sem Fs Gs (.ix a b)).ev E S).bind fun v S1 => R.of ((v.peek S1).bind truD) S1 := rfl
/-! what is walked -/
theorem i_var (i : Nat) : (sem Fs Gs (.var i)).it E S = ((sem Fs Gs (.var i)).ev E S).bind fun v S1 => R.of (v.dat.bind itemsOf) S1 := rfl
theorem i_call (f : Nat) (es : List Ex) : (sem Fs Gs (.call f es)).it E S = ((sem Fs Gs (.call f es)).ev E S).bind fun v S1 => R.of (v.dat.bind itemsOf) S1 := rfl
theorem i_bi (b : BI) (es : List Ex) : (sem Fs Gs (.bi b es)).it E S = ((sem Fs Gs (.bi b es)).ev E S).bind fun v S1 => R.of (v.dat.bind itemsOf) S1 := rfl
theorem i_rng (es : List Ex) : (sem Fs Gs (.rng es)).it E S = (evAll (sems Fs Gs es) E S).bind fun vs S1 => R.of ((strictAll vs).bind rngD) S1 := rfl
theorem i_zip (es : List Ex) : (sem Fs Gs (.zip es)).it E S = (evAll (sems Fs Gs es) E S).bind fun vs S1 => R.of ((strictAll vs).bind zipA) S1 := rfl
theorem i_lst (es : List Ex) : (sem Fs Gs (.lst es)).it E S = ((sem Fs Gs (.lst es)).ev E S).bind fun v S1 => R.of (v.dat.bind itemsOf) S1 := rfl
theorem i_tup (es : List Ex) : (sem Fs Gs (.tup es)).it E S = ((sem Fs Gs (.tup es)).ev E S).bind fun v S1 => R.of (v.dat.bind itemsOf) S1 := rfl
theorem i_slc (a : Ex) (lo hi : Option Ex) : (sem Fs Gs (.slc a lo hi)).it E S = ((sem Fs Gs (.slc a lo hi)).ev E S).bind fun v S1 => R.of (v.dat.bind itemsOf) S1 := rfl
theorem i_ix (a b : Ex) : (sem Fs Gs (.ix a b)).it E S = ((sem Fs Gs (.ix a b)).ev E S).bind fun v S1 => R.of (v.dat.bind itemsOf) S1 := rfl
theorem i_bin (op : Operator) (a b : Ex) : (sem Fs Gs (.bin op a b)).it E S = ((sem Fs Gs (.bin op a b)).ev E S).bind fun v S1 => R.of (v.dat.bind itemsOf) S1 := rfl
/-! lists -/
theorem ss_nil : sems Fs Gs [] = [] := rfl
theorem ss_cons (e : Ex) (r : List Ex) : sems Fs Gs (e :: r) = sem Fs Gs e :: sems Fs Gs r := rfl
theorem so_none : semo Fs Gs none = none := rfl
theorem so_some (e : Ex) : semo Fs Gs (some e) = some (sem Fs Gs e) := rfl
theorem ea_nil : evAll [] E S = .ok [] S := rfl
theorem ea_cons (m : Sm) (r : List Sm) : evAll (m :: r) E S = (m.ev E S).bind fun v S1 => (evAll r E S1).bind fun vs S2 => .ok (v :: vs) S2 := rfl
theorem an_1 (m : Sm) : evAnd [m] E S = m.ev E S := rfl
theorem an_2 (m m2 : Sm) (r : List Sm) : evAnd (m :: m2 :: r) E S = (m.ev E S).bind fun v S1 => match v with
    | .d (.bl true) => evAnd (m2 :: r) E S1
    | .d (.bl false) => .ok (.d (.bl false)) S1
    | _ => .no := rfl
theorem or_1 (m : Sm) : evOr [m] E S = m.ev E S := rfl
theorem or_2 (m m2 : Sm) (r : List Sm) : evOr (m :: m2 :: r) E S = (m.ev E S).bind fun v S1 => match v with
    | .d (.bl false) => evOr (m2 :: r) E S1
    | .d (.bl true) => .ok (.d (.bl true)) S1
    | _ => .no := rfl
theorem tan_1 (m : Sm) : tsAnd [m] E S = m.ts E S := rfl
theorem tan_2 (m m2 : Sm) (r : List Sm) : tsAnd (m :: m2 :: r) E S = (m.ts E S).bind fun c S1 => if c then tsAnd (m2 :: r) E S1 else .ok false S1 := rfl
theorem tor_1 (m : Sm) : tsOr [m] E S = m.ts E S := rfl
theorem tor_2 (m m2 : Sm) (r : List Sm) : tsOr (m :: m2 :: r) E S = (m.ts E S).bind fun c S1 => if c then .ok true S1 else tsOr (m2 :: r) E S1 := rfl
theorem tal_0 : tsAll [] E S = .ok true S := rfl
theorem tal_1 (m : Sm) : tsAll [m] E S = m.ts E S := rfl
theorem ep_0 : evPart none E S = .ok none S := rfl
theorem ep_1 (m : Sm) : evPart (some m) E S = (m.ev E S).bind fun v S1 => match v with
    | .d (.int i) => .ok (some i) S1
    | _ => .no := rfl
theorem st_ (m : Sm) : strict m E S = (m.ev E S).bind fun v S1 => R.of v.dat S1 := rfl
theorem st2_ (k v : Sm) : strict2 k v E S = (k.ev E S).bind fun x S1 => (v.ev E S1).bind fun y S2 => R.of ((x.dat.bind asKey).bind fun q => y.dat.map fun z => (q, z)) S2 := rfl
theorem tu_nil (tg : Tg) (vs : List Nat) (t : Env → Store → R Bool) (g : Env → Store → R D) (acc : List D) : turns tg vs t g E [] acc S = .ok acc S := rfl
theorem tu_cons (tg : Tg) (vs : List Nat) (t : Env → Store → R Bool) (g : Env → Store → R D) (x : D) (r acc : List D) {E' : Env} (h : asgT tg x (wipeE E vs) = some E') : turns tg vs t g E (x :: r) acc S = (t E' S).bind fun b S1 => if b then (g E' S1).bind fun y S2 => turns tg vs t g E r (acc ++ [y]) S2 else turns tg vs t g E r acc S1 := by
  rw [turns, h]
theorem tu_c (tg : Tg) (vs : List Nat) (t : Env → Store → R Bool) (g : Env → Store → R D) (x : D) (r acc : List D) : turns tg vs t g E (x :: r) acc S = match asgT tg x (wipeE E vs) with
    | none => .no
    | some E' => (t E' S).bind fun b S1 => if b then (g E' S1).bind fun y S2 => turns tg vs t g E r (acc ++ [y]) S2 else turns tg vs t g E r acc S1 := by
  rw [turns] <;> (cases asgT tg x (wipeE E vs) <;> rfl)
theorem w_0 : wipeE E [] = E := rfl
theorem w_s (v : Nat) (vs : List Nat) : wipeE E (v :: vs) = (wipeE E vs).set v none := rfl
theorem ca_ok {α : Type} (a : α) : (R.ok a S).calm = .ok a S := rfl
theorem at1 (a : D) : L2.atI [a] 0 = some a := rfl
theorem at2_0 (a b : D) : L2.atI [a, b] 0 = some a := rfl
theorem at2_1 (a b : D) : L2.atI [a, b] 1 = some b := rfl
theorem at4_0 (a b c d : D) : L2.atI [a, b, c, d] 0 = some a := rfl
theorem at4_1 (a b c d : D) : L2.atI [a, b, c, d] 1 = some b := rfl
theorem at4_2 (a b c d : D) : L2.atI [a, b, c, d] 2 = some c := rfl
theorem at4_3 (a b c d : D) : L2.atI [a, b, c, d] 3 = some d := rfl
theorem bo_nil : boolsOf [] = some [] := rfl
theorem bo_c (b : Bool) (r : List D) : boolsOf (.bl b :: r) = (boolsOf r).map (b :: ·) := rfl
theorem io_nil : intsOf [] = some [] := rfl
theorem io_c (b : Int) (r : List D) : intsOf (.int b :: r) = (intsOf r).map (b :: ·) := rfl
theorem is_int (i : Int) : biD .isinst [.int i, .ty "int"] = some (.d (.bl true)) := rfl
theorem is_intb (i : Int) : biD .isinst [.int i, .ty "bool"] = some (.d (.bl false)) := rfl
theorem is_tup (xs : List D) : biD .isinst [.tup xs, .ty "tuple"] = some (.d (.bl true)) := rfl
/-! slots -/
theorem g_0 (x : Option Val) : getV (x :: E) 0 = x := rfl
theorem g_s (x : Option Val) (n : Nat) : getV (x :: E) (n + 1) = getV E n := rfl
/-! values -/
theorem p_d (x : D) : (Val.d x).peek S = some x := rfl
theorem p_own (c : Cell) : (Val.own c).peek S = c.dat := rfl
theorem p_ref (l : Nat) : (Val.ref l).peek S = (S[l]?).bind Cell.dat := rfl
theorem d_d (x : D) : (Val.d x).dat = some x := rfl
theorem d_own (c : Cell) : (Val.own c).dat = c.dat := rfl
theorem a_d (x : D) : (Val.d x).arg = some (.d x) := rfl
theorem a_own (c : Cell) : (Val.own c).arg = c.dat.map .d := rfl
theorem a_ref (l : Nat) : (Val.ref l).arg = some (.ref l) := rfl
theorem c_lst (xs : List D) : (Cell.lst xs).dat = some (.lst xs) := rfl
theorem c_dct (ks : List L2.Key) (xs : List D) : (Cell.dct ks xs).dat = some (.dct ks xs) := rfl
theorem pk_nil : peeks S [] = some [] := rfl
theorem pk_cons (v : Val) (r : List Val) : peeks S (v :: r) = (v.peek S).bind fun x => (peeks S r).map (x :: ·) := rfl
theorem sa_nil : strictAll [] = some [] := rfl
theorem sa_cons (v : Val) (r : List Val) : strictAll (v :: r) = v.dat.bind fun x => (strictAll r).map (x :: ·) := rfl
theorem ao_nil : argsOf [] = some [] := rfl
theorem ao_cons (v : Val) (r : List Val) : argsOf (v :: r) = v.arg.bind fun x => (argsOf r).map (x :: ·) := rfl
/-! operators -/
theorem b_add (i j : Int) : binD .Add (.int i) (.int j) = some (.d (.int (i + j))) := rfl
theorem b_sub (i j : Int) : binD .Sub (.int i) (.int j) = some (.d (.int (i - j))) := rfl
theorem b_mul (i j : Int) : binD .Mult (.int i) (.int j) = if cmulB i j then some (.d (.int (i * j))) else none := rfl
theorem b_div (i j : Int) : binD .FloorDiv (.int i) (.int j) = if cdivB j then some (.d (.int (i / j))) else none := rfl
theorem b_mod (i j : Int) : binD .Mod (.int i) (.int j) = if 0 < j then some (.d (.int (i % j))) else none := rfl
theorem b_pow (i j : Int) : binD .Pow (.int i) (.int j) = if cpowB i j then some (.d (.int (i ^ j.toNat))) else none := rfl
theorem b_cat (xs ys : List D) : binD .Add (.lst xs) (.lst ys) = if xs.length + ys.length ≤ PySem.sizeLine then some (.own (.lst (xs ++ ys))) else none := rfl
theorem n_int (i : Int) : negD (.int i) = some (.d (.int (-i))) := rfl
theorem n_bl (b : Bool) : notD (.bl b) = some (.d (.bl !b)) := rfl
theorem cv (op : CmpOp) (x y : D) : cmpV op x y = (cmpD op x y).map fun b => .d (.bl b) := rfl
theorem c_eq (x y : D) : cmpD .Eq x y = eqD x y := rfl
theorem c_ne (x y : D) : cmpD .NotEq x y = (eqD x y).map (!·) := rfl
theorem c_lt (i j : Int) : cmpD .Lt (.int i) (.int j) = some (decide (i < j)) := rfl
theorem c_le (i j : Int) : cmpD .LtE (.int i) (.int j) = some (decide (i ≤ j)) := rfl
theorem c_gt (i j : Int) : cmpD .Gt (.int i) (.int j) = some (decide (j < i)) := rfl
theorem c_ge (i j : Int) : cmpD .GtE (.int i) (.int j) = some (decide (j ≤ i)) := rfl
theorem c_in (a : D) (xs : List D) : cmpD .In a (.lst xs) = inD a (.lst xs) := by cases a <;> rfl
theorem c_notIn (a : D) (xs : List D) : cmpD .NotIn a (.lst xs) = (inD a (.lst xs)).map (!·) := by cases a <;> rfl
theorem eq_int (i j : Int) : eqD (.int i) (.int j) = some (i == j) := by
  show (D.int i).py.bind (fun x => (D.int j).py.bind fun y => if PySem.SeqAt.shaped x && PySem.SeqAt.shaped y then some (PySem.PyData.eqv x y) else none) = _
  unfold D.py
  simp only [Option.bind_some]
  rw [if_pos (show (PySem.SeqAt.shaped (.int i) && PySem.SeqAt.shaped (.int j)) = true from rfl)]
  rfl
theorem eq_str (x y : Str) : eqD (.str x) (.str y) = some (decide (x = y)) := rfl
theorem x_lst (xs : List D) (i : Int) : ixD (.lst xs) (.int i) = L2.atI xs i := rfl
theorem x_tup (xs : List D) (i : Int) : ixD (.tup xs) (.int i) = L2.atI xs i := rfl
theorem x_dct (ks : List L2.Key) (vs : List D) (k : D) : ixD (.dct ks vs) k = (asKey k).bind fun q => lookD q ks vs := by cases k <;> rfl
theorem tr_bl (b : Bool) : truD (.bl b) = some b := rfl
theorem tr_int (i : Int) : truD (.int i) = some (i != 0) := rfl
theorem bi_len (xs : List D) : biD .len [.lst xs] = some (.d (.int xs.length)) := rfl
theorem bi_lent (xs : List D) : biD .len [.tup xs] = some (.d (.int xs.length)) := rfl
theorem bi_abs (i : Int) : biD .abs [.int i] = some (.d (.int (i.natAbs : Int))) := by
  show some (Val.d (.int (if i < 0 then -i else i))) = _
  congr 3
  split <;> omega
theorem bi_int (i : Int) : biD .int [.int i] = some (.d (.int i)) := rfl
theorem bi_all (xs : List D) : biD .all [.lst xs] = (boolsOf xs).map fun bs => .d (.bl (bs.all id)) := rfl
theorem bi_list (xs : List D) : biD .list [.lst xs] = some (.own (.lst xs)) := rfl
theorem bi_listk (xs : List D) : biD .list [.klst xs] = some (.own (.lst xs)) := rfl
theorem bi_listt (xs : List D) : biD .list [.tup xs] = some (.own (.lst xs)) := rfl
theorem bi_tuple (xs : List D) : biD .tuple [.lst xs] = some (.d (.tup xs)) := rfl
theorem bi_tuplet (xs : List D) : biD .tuple [.tup xs] = some (.d (.tup xs)) := rfl
theorem io_lst (xs : List D) : itemsOf (.lst xs) = some xs := rfl
theorem io_klst (xs : List D) : itemsOf (.klst xs) = some xs := rfl
theorem io_tup (xs : List D) : itemsOf (.tup xs) = some xs := rfl
/-! statements -/
theorem k_nil : semB Fs Gs W [] E S = .ok (.nx, E) S := rfl
theorem k_cons (s : Sx) (r : List Sx) : semB Fs Gs W (s :: r) E S = (semS Fs Gs W s E S).bind fun p S1 => match p.1 with
    | .nx => semB Fs Gs W r p.2 S1
    | f => .ok (f, p.2) S1 := rfl
theorem k_asg (i : Nat) (e : Ex) : semS Fs Gs W (.asg i e) E S = ((sem Fs Gs e).ev E S).bind fun v S1 => lift (v.arg.bind fun w => if i < E.length then some (E.set i (some w)) else none) S1 := rfl
theorem k_asgS (ts : List Tg) (e : Ex) : semS Fs Gs W (.asgS ts e) E S = ((sem Fs Gs e).ev E S).bind fun v S1 => lift (v.dat.bind fun x => asgT (.seq ts) x E) S1 := rfl
theorem k_asgN (i : Nat) (e : Ex) : semS Fs Gs W (.asgN i e) E S = ((sem Fs Gs e).ev E S).bind fun v S1 => match v with
    | .own c => if i < E.length then .ok (.nx, E.set i (some (.ref S1.length))) (S1 ++ [c]) else .no
    | _ => .no := rfl
theorem k_setix (o i e : Ex) : semS Fs Gs W (.setix o i e) E S = ((sem Fs Gs e).ev E S).bind fun v S1 => ((sem Fs Gs o).ev E S1).bind fun l S2 => ((sem Fs Gs i).ev E S2).bind fun k S3 =>
      (R.of (v.dat.bind fun x => k.dat.bind fun y => setAt l y x S3) S3).bind fun S4 _ => .ok (.nx, E) S4 := rfl
theorem k_ex (e : Ex) : semS Fs Gs W (.ex e) E S = ((sem Fs Gs e).ev E S).bind fun _ S1 => .ok (.nx, E) S1 := rfl
theorem k_ret (e : Ex) : semS Fs Gs W (.ret e) E S = ((sem Fs Gs e).ev E S).bind fun v S1 => .ok (.rt v, E) S1 := rfl
theorem k_retN : semS Fs Gs W .retN E S = .ok (.rt (.d .non), E) S := rfl
theorem k_iff (t : Ex) (a b : List Sx) : semS Fs Gs W (.iff t a b) E S = ((sem Fs Gs t).ts E S).bind fun c S1 => if c then semB Fs Gs W a E S1 else semB Fs Gs W b E S1 := rfl
theorem k_whl (t : Ex) (b : List Sx) : semS Fs Gs W (.whl t b) E S = whileN (sem Fs Gs t).ts (semB Fs Gs W b) W E S := rfl
theorem k_for (tg : Tg) (it : Ex) (b : List Sx) : semS Fs Gs W (.for tg it b) E S = ((sem Fs Gs it).it E S).bind fun xs S1 => loop (fun x E S => (R.of (asgT tg x E) S).bind fun E' S => semB Fs Gs W b E' S) xs E S1 := rfl
theorem k_brk : semS Fs Gs W .brk E S = .ok (.bk, E) S := rfl
theorem k_cont : semS Fs Gs W .cont E S = .ok (.ct, E) S := rfl
theorem k_raise (c : Nat) (es : List Ex) : semS Fs Gs W (.raise c es) E S = (evAll (sems Fs Gs es) E S).bind fun vs S1 => match strictAll vs with
    | some [x] => .ex c x S1
    | _ => .no := rfl
theorem k_tryR (b : List Sx) (c : Nat) (subs : List Nat) (d : D) : semS Fs Gs W (.tryR b c subs d) E S = match semB Fs Gs W b E S with
    | .ok p S1 => .ok p S1
    | .ex k a S1 => if subs.contains k then .ok (.rt (.d d), E) S1 else .ex k a S1
    | .no => .no := rfl
theorem k_tryF (b : List Sx) (c : Nat) (subs : List Nat) (i f : Nat) : semS Fs Gs W (.tryF b c subs i f) E S = match semB Fs Gs W b E S with
    | .ok p S1 => .ok p S1
    | .ex k a S1 => if subs.contains k then (match Fs f [.err k a] S1 with
      | .ok (.d x) S2 => .ok (.rt (.d x), E) S2
      | _ => .no) else .ex k a S1
    | .no => .no := rfl
theorem k_asgP (i : Nat) (e1 : Ex) (j : Nat) (e2 : Ex) : semS Fs Gs W (.asgP i e1 j e2) E S = ((sem Fs Gs e1).ev E S).bind fun v S1 => ((sem Fs Gs e2).ev E S1).bind fun w S2 => match v, w with
    | .own c, .d y => if i < E.length then .ok (.nx, (E.set i (some (.ref S2.length))).set j (some (.d y))) (S2 ++ [c]) else .no
    | _, _ => .no := rfl
theorem k_aug (i : Nat) (op : Operator) (e : Ex) : semS Fs Gs W (.aug i op e) E S = augM op i (sem Fs Gs e).ev E S := rfl
theorem k_aug1 (i : Nat) (op : Operator) (e : Ex) {a b : Int} {c : Int} {S1 : Store} (h : getV E i = some (.d (.int a))) (he : (sem Fs Gs e).ev E S = .ok (.d (.int b)) S1) (hc : augI op a b = some c) : semS Fs Gs W (.aug i op e) E S = .ok (.nx, E.set i (some (.d (.int c)))) S1 := by
  rw [k_aug]
  unfold augM
  rw [h, he]
  simp [augV, hc, lift]
theorem k_asgX (ts : List (Ex × Ex)) (e : Ex) : semS Fs Gs W (.asgX ts e) E S = ((sem Fs Gs e).ev E S).bind fun v S1 => (R.of (v.dat.bind (tupD ts.length)) S1).bind fun xs S1 => setAll (semPs Fs Gs ts) xs E S1 := rfl
theorem sp_nil : semPs Fs Gs [] = [] := rfl
theorem sp_cons (o i : Ex) (r : List (Ex × Ex)) : semPs Fs Gs ((o, i) :: r) = (sem Fs Gs o, sem Fs Gs i) :: semPs Fs Gs r := rfl
theorem sx_nil : setAll [] [] E S = .ok (.nx, E) S := rfl
theorem sx_cons (mo mi : Sm) (ms : List (Sm × Sm)) (x : D) (xs : List D) : setAll ((mo, mi) :: ms) (x :: xs) E S = (mo.ev E S).bind fun l S2 => (mi.ev E S2).bind fun k S3 => (R.of (k.dat.bind fun y => setAt l y x S3) S3).bind fun S4 _ => setAll ms xs E S4 := rfl
theorem wh_s (t : Env → Store → R Bool) (b : SM) (n : Nat) : whileN t b (n + 1) E S = (t E S).bind fun c S1 => if c then (b E S1).bind fun p S2 => match p.1 with
      | .nx => whileN t b n p.2 S2
      | .ct => whileN t b n p.2 S2
      | .bk => .ok (.nx, p.2) S2
      | .rt v => .ok (.rt v, p.2) S2
    else .ok (.nx, E) S1 := rfl
theorem f_ex (n c : Nat) (a : D) : fin n (.ex c a S) = .ex c a (S.take n) := rfl
theorem x_str (s : Str) (i : Int) : ixD (.str s) (.int i) = if s.length ≤ PySem.sizeLine then (L2.atI s.cps.toList i).map fun c => .str ⟨#[c]⟩ else none := rfl
theorem lo_nil (b : D → SM) : loop b [] E S = .ok (.nx, E) S := rfl
theorem lo_cons (b : D → SM) (x : D) (r : List D) : loop b (x :: r) E S = (b x E S).bind fun p S1 => match p.1 with
    | .nx => loop b r p.2 S1
    | .ct => loop b r p.2 S1
    | .bk => .ok (.nx, p.2) S1
    | .rt v => .ok (.rt v, p.2) S1 := rfl
theorem li_some (E' : Env) : lift (some E') S = .ok (.nx, E') S := rfl
theorem as_nm (i : Nat) (x : D) : asgT (.nm i) x E = if i < E.length then some (E.set i (some (.d x))) else none := rfl
theorem as_tup (ts : List Tg) (xs : List D) : asgT (.seq ts) (.tup xs) E = asgTs ts xs E := rfl
theorem as_0 : asgTs [] [] E = some E := rfl
theorem as_s (t : Tg) (ts : List Tg) (x : D) (xs : List D) : asgTs (t :: ts) (x :: xs) E = (asgT t x E).bind fun E' => asgTs ts xs E' := rfl
theorem f_rt (n : Nat) (x : D) : fin n (.ok (.rt (.d x), E) S) = .ok (.d x) (S.take n) := rfl
theorem f_own (n : Nat) (c : Cell) : fin n (.ok (.rt (.own c), E) S) = .ok (.own c) (S.take n) := rfl
theorem f_nx (n : Nat) : fin n (.ok (.nx, E) S) = .ok (.d .non) (S.take n) := rfl
theorem r_run (f : Fd) (vs : List Val) (h : vs.length = f.np) : runF Fs Gs W f vs S = fin S.length (semB Fs Gs W f.body (vs.map some ++ List.replicate (f.ns - vs.length) none) S) := if_pos h
end
end Mi

set_option maxHeartbeats 2000000
namespace K50
open Mi
open PySem (Str)
abbrev fds : List Fd := rows.map (·.fd)
abbrev C (n : Nat) : Fns := callF fds gs 100000 n
theorem call_at {n f : Nat} {fd : Fd} (h : fds[f]? = some fd) (vs : List Val) (S : Store) (hh : (fd.hot == isErr1 vs) = true) : C (n + 1) f vs S = runF (C n) gs 100000 fd vs S := by
  show (match fds[f]? with
    | some fd => if (fd.hot == isErr1 vs) = true then runF (C n) gs 100000 fd vs S else .no
    | none => .no) = _
  rw [h]
  exact if_pos hh
theorem call_d {n f : Nat} {fd : Fd} (h : fds[f]? = some fd) (x : D) (r : List Val) (S : Store) (hh : fd.hot = false := by rfl) : C (n + 1) f (.d x :: r) S = runF (C n) gs 100000 fd (.d x :: r) S := call_at h _ S (by rw [hh]; cases r <;> rfl)
theorem call_r {n f : Nat} {fd : Fd} (h : fds[f]? = some fd) (l : Nat) (r : List Val) (S : Store) (hh : fd.hot = false := by rfl) : C (n + 1) f (.ref l :: r) S = runF (C n) gs 100000 fd (.ref l :: r) S := call_at h _ S (by rw [hh]; cases r <;> rfl)
abbrev I (i : Int) : Val := .d (.int i)
/-- a text of these signs -/
def tx (cs : List Nat) : Str := ⟨cs.toArray⟩
theorem tx_len (cs : List Nat) : (tx cs).length = cs.length := by show cs.toArray.size = _; simp
theorem tx_list (cs : List Nat) : (tx cs).cps.toList = cs := rfl
theorem tx_self (x : Str) : tx x.cps.toList = x := by cases x; rfl
abbrev sg (c : Nat) : D := .str ⟨#[c]⟩
theorem line : (4000 : Nat) ≤ PySem.sizeLine := by decide
theorem ix_t {cs : List Nat} {p : Nat} {c : Nat} (hl : cs.length ≤ 4000) (h : cs[p]? = some c) : ixD (.str (tx cs)) (.int (p : Nat)) = some (sg c) := by
  rw [x_str, if_pos (by rw [tx_len]; exact Nat.le_trans hl line), tx_list, L2.atI_nat h]
  rfl
theorem len_t {cs : List Nat} (hl : cs.length ≤ 4000) : biD .len [.str (tx cs)] = some (.d (.int (cs.length : Nat))) := by
  show (if (tx cs).length ≤ PySem.sizeLine then some (Val.d (.int (tx cs).length)) else none) = _
  rw [if_pos (by rw [tx_len]; exact Nat.le_trans hl line), tx_len]
/-! ### kinds of signs -/
def isL (c : Nat) : Bool := decide (97 ≤ c) && decide (c ≤ 122)
def isD (c : Nat) : Bool := decide (48 ≤ c) && decide (c ≤ 57)
def isW (c : Nat) : Bool := decide (c ∈ [32, 10])
def isS (c : Nat) : Bool := decide (c ∈ [59, 44, 40, 41, 47, 45, 35, 46])
theorem in_of {w : Str} {l : List Nat} {c : Nat} (h : w.cps.toList = l) : cmpD .In (sg c) (.str w) = some (decide (c ∈ l)) := by
  show inS ⟨#[c]⟩ w = _
  subst h
  rfl
theorem in_W (c : Nat) : cmpD .In (sg c) (.str " \n") = some (isW c) := in_of (by decide)
theorem mem_L (c : Nat) : decide (c ∈ [97, 98, 99, 100, 101, 102, 103, 104, 105, 106, 107, 108, 109, 110, 111, 112, 113, 114, 115, 116, 117, 118, 119, 120, 121, 122]) = isL c := by
  unfold isL
  rw [Bool.eq_iff_iff]
  simp only [List.mem_cons, List.not_mem_nil, or_false, decide_eq_true_eq, Bool.and_eq_true]
  omega
theorem mem_D (c : Nat) : decide (c ∈ [48, 49, 50, 51, 52, 53, 54, 55, 56, 57]) = isD c := by
  unfold isD
  rw [Bool.eq_iff_iff]
  simp only [List.mem_cons, List.not_mem_nil, or_false, decide_eq_true_eq, Bool.and_eq_true]
  omega
theorem in_L (c : Nat) : cmpD .In (sg c) (.str "abcdefghijklmnopqrstuvwxyz") = some (isL c) := by rw [← mem_L]; exact in_of (by decide)
theorem in_D (c : Nat) : cmpD .In (sg c) (.str "0123456789") = some (isD c) := by rw [← mem_D]; exact in_of (by decide)
theorem in_S (c : Nat) : cmpD .In (sg c) (.str ";,()/-#.") = some (isS c) := in_of (by decide)
theorem notIn_S (c : Nat) : cmpD .NotIn (sg c) (.str ";,()/-#.") = some (!isS c) := by
  have h := in_S c
  show (inS ⟨#[c]⟩ ";,()/-#.").map (!·) = _
  rw [show inS ⟨#[c]⟩ ";,()/-#." = some (isS c) from h]
  rfl
theorem le_str (x y : Str) (hx : PySem.PyData.strOk x = true) (hy : PySem.PyData.strOk y = true) : cmpD .LtE (.str x) (.str y) = some (!decide (y.cps.toList < x.cps.toList)) := by
  show ordD (fun x y => !PySem.W.dataLt y x) (.str x) (.str y) = _
  unfold ordD
  show (if (PySem.W.alike (.str x) (.str y) && notNoneP (.str x) && PySem.SeqAt.shaped (.str x) && PySem.SeqAt.shaped (.str y)) = true then some (!PySem.W.dataLt (.str y) (.str x)) else none) = _
  rw [if_pos (by simp [PySem.W.alike, notNoneP, PySem.SeqAt.shaped, PySem.PyData.canLay0, PySem.PyData.depth, hx, hy]), PySem.W.dataLt_str]
theorem ok1 {c : Nat} (h : c < 1114112) : PySem.PyData.strOk ⟨#[c]⟩ = true := by
  unfold PySem.PyData.strOk
  simpa using h
theorem ge_a (c : Nat) (hc : c < 1114112) : cmpD .LtE (.str "a") (sg c) = some (decide (97 ≤ c)) := by
  rw [le_str _ _ (by decide +kernel) (ok1 hc)]
  have e : ("a" : Str).cps.toList = [97] := by decide
  rw [e]
  congr 1
  by_cases h : 97 ≤ c
  · have n : ¬ ([c] : List Nat) < [97] := by simp [List.cons_lt_cons_iff]; omega
    show (!decide (([c] : List Nat) < [97])) = _
    rw [decide_eq_false n, decide_eq_true h]; rfl
  · have n : ([c] : List Nat) < [97] := by simp [List.cons_lt_cons_iff]; omega
    show (!decide (([c] : List Nat) < [97])) = _
    rw [decide_eq_true n, decide_eq_false h]; rfl
theorem le_z (c : Nat) (hc : c < 1114112) : cmpD .LtE (sg c) (.str "z") = some (decide (c ≤ 122)) := by
  rw [le_str _ _ (ok1 hc) (by decide +kernel)]
  have e : ("z" : Str).cps.toList = [122] := by decide
  rw [e]
  congr 1
  by_cases h : c ≤ 122
  · have n : ¬ ([122] : List Nat) < [c] := by simp [List.cons_lt_cons_iff]; omega
    show (!decide (([122] : List Nat) < [c])) = _
    rw [decide_eq_false n, decide_eq_true h]; rfl
  · have n : ([122] : List Nat) < [c] := by simp [List.cons_lt_cons_iff]; omega
    show (!decide (([122] : List Nat) < [c])) = _
    rw [decide_eq_true n, decide_eq_false h]; rfl
/-- 'a' <= sign <= 'z' -/
theorem az_run {Fs : Fns} {Gs : List D} {E : Env} {S : Store} {x : Ex} {c : Nat} (hc : c < 1114112) (h : (sem Fs Gs x).ev E S = .ok (.d (sg c)) S) : (sem Fs Gs (.chn .LtE .LtE (.kS "a") x (.kS "z"))).ev E S = .ok (.d (.bl (isL c))) S := by
  rw [e_chn]
  unfold chain
  simp only [e_kN, e_kB, e_kI, e_kS, e_var, e_glb, e_fnv, e_typ, e_neg, e_bin, e_cmp, e_chn, e_and, e_or, e_not, e_ife, e_tup, e_lst, e_ix, e_slc, e_call, e_bi, e_mt, e_lc, e_dc, e_isE, e_isV, e_attr, e_dyn, e_pm, ra_0, t_isV, t_isE, t_dyn, i_lst, i_tup, i_slc, i_ix, i_bin, k_raise, k_asgP, k_asgX, sp_nil, sp_cons, sx_nil, sx_cons, f_ex, R.bind_ex, t_and, t_or, t_not, t_var, t_cmp, t_chn, t_call, t_bi, t_ix, i_var, i_call, i_bi, i_rng, i_zip, ss_nil, ss_cons, so_none, so_some, ea_nil, ea_cons, an_1, an_2, or_1, or_2, tan_1, tan_2, tor_1, tor_2, tal_0, tal_1, ep_0, ep_1, st_, st2_, tu_nil, tu_c, w_0, w_s, ca_ok, at1, at2_0, at2_1, at4_0, at4_1, at4_2, at4_3, bo_nil, bo_c, io_nil, io_c, is_int, is_intb, is_tup, g_0, g_s, p_d, p_own, p_ref, d_d, d_own, a_d, a_own, a_ref, c_lst, c_dct, pk_nil, pk_cons, sa_nil, sa_cons, ao_nil, ao_cons, b_add, b_sub, b_mul, b_div, b_mod, b_pow, b_cat, n_int, n_bl, cv, c_eq, c_ne, c_lt, c_le, c_gt, c_ge, c_in, c_notIn, eq_int, x_lst, x_tup, x_dct, tr_bl, tr_int, bi_len, bi_lent, bi_abs, bi_int, bi_all, bi_list, bi_listk, bi_listt, bi_tuple, bi_tuplet, io_lst, io_klst, io_tup, k_nil, k_cons, k_asg, k_asgS, k_asgN, k_setix, k_ex, k_ret, k_retN, k_iff, k_whl, k_for, k_brk, k_cont, lo_nil, lo_cons, li_some, as_nm, as_tup, as_0, as_s, f_rt, f_own, f_nx, R.bind_ok, R.of_some, Option.bind_some, Option.map_some, List.length_cons, List.length_nil, List.set_cons_zero, List.set_cons_succ, List.map_cons, List.map_nil, List.replicate, List.cons_append, List.nil_append, if_true, if_false, Bool.false_eq_true, h, ge_a c hc, le_z c hc]
  unfold isL
  by_cases z : 97 ≤ c <;> simp [z, le_z c hc, cv]
theorem az_test {Fs : Fns} {Gs : List D} {E : Env} {S : Store} {x : Ex} {c : Nat} (hc : c < 1114112) (h : (sem Fs Gs x).ev E S = .ok (.d (sg c)) S) : (sem Fs Gs (.chn .LtE .LtE (.kS "a") x (.kS "z"))).ts E S = .ok (isL c) S := by
  rw [t_chn, az_run hc h]
  rfl
/-- how many of these stand ahead -/
def run (p : Nat → Bool) (l : List Nat) : Nat := (l.takeWhile p).length
theorem run_le (p : Nat → Bool) (l : List Nat) : run p l ≤ l.length := by
  unfold run
  exact (List.takeWhile_prefix p).length_le
theorem run_yes {p : Nat → Bool} {cs : List Nat} {i c : Nat} (h : cs[i]? = some c) (hp : p c = true) : run p (cs.drop i) = 1 + run p (cs.drop (i + 1)) := by
  have hl := (List.getElem?_eq_some_iff.mp h).1
  have e : cs.drop i = c :: cs.drop (i + 1) := by
    rw [List.drop_eq_getElem_cons hl, (List.getElem?_eq_some_iff.mp h).2]
  rw [e]
  unfold run
  rw [List.takeWhile_cons, if_pos hp, List.length_cons]
  omega
theorem run_not {p : Nat → Bool} {cs : List Nat} {i c : Nat} (h : cs[i]? = some c) (hp : p c = false) : run p (cs.drop i) = 0 := by
  have hl := (List.getElem?_eq_some_iff.mp h).1
  have e : cs.drop i = c :: cs.drop (i + 1) := by
    rw [List.drop_eq_getElem_cons hl, (List.getElem?_eq_some_iff.mp h).2]
  rw [e]
  unfold run
  rw [List.takeWhile_cons, if_neg (by rw [hp]; exact Bool.false_ne_true)]
  rfl
theorem run_end {p : Nat → Bool} {cs : List Nat} {i : Nat} (h : cs.length ≤ i) : run p (cs.drop i) = 0 := by
  rw [List.drop_eq_nil_of_le h]; rfl
/-- the program's run_end -/
def tE : Ex := .andE [(.cmp .Lt (.var 1) (.bi .len [(.var 0)])), (.cmp .In (.ix (.var 0) (.var 1)) (.var 2))]
theorem end_loop (Fs : Fns) (S : Store) {p : Nat → Bool} {w : Str} (hw : ∀ c, cmpD .In (sg c) (.str w) = some (p c)) {cs : List Nat} (hl : cs.length ≤ 4000) : ∀ (n m i : Nat), cs.length - i ≤ n → n < m → whileN (sem Fs gs tE).ts (semB Fs gs 100000 [.aug 1 .Add (.kI 1)]) m [some (.d (.str (tx cs))), some (I (i : Nat)), some (.d (.str w))] S = .ok (.nx, [some (.d (.str (tx cs))), some (I ((i + run p (cs.drop i) : Nat) : Int)), some (.d (.str w))]) S
  | n, m + 1, i, h1, h2 => by
    rw [wh_s]
    have t0 : (sem Fs gs tE).ts [some (.d (.str (tx cs))), some (I (i : Nat)), some (.d (.str w))] S = .ok (match cs[i]? with
        | some c => p c
        | none => false) S := by
      unfold tE
      cases e : cs[i]? with
      | none =>
        have hi : ¬ ((i : Int) < (cs.length : Int)) := by have := List.getElem?_eq_none_iff.mp e; omega
        simp [e_kN, e_kB, e_kI, e_kS, e_var, e_glb, e_fnv, e_typ, e_neg, e_bin, e_cmp, e_chn, e_and, e_or, e_not, e_ife, e_tup, e_lst, e_ix, e_slc, e_call, e_bi, e_mt, e_lc, e_dc, e_isE, e_isV, e_attr, e_dyn, e_pm, ra_0, t_isV, t_isE, t_dyn, i_lst, i_tup, i_slc, i_ix, i_bin, k_raise, k_asgP, k_asgX, sp_nil, sp_cons, sx_nil, sx_cons, f_ex, R.bind_ex, t_and, t_or, t_not, t_var, t_cmp, t_chn, t_call, t_bi, t_ix, i_var, i_call, i_bi, i_rng, i_zip, ss_nil, ss_cons, so_none, so_some, ea_nil, ea_cons, an_1, an_2, or_1, or_2, tan_1, tan_2, tor_1, tor_2, tal_0, tal_1, ep_0, ep_1, st_, st2_, tu_nil, tu_c, w_0, w_s, ca_ok, at1, at2_0, at2_1, at4_0, at4_1, at4_2, at4_3, bo_nil, bo_c, io_nil, io_c, is_int, is_intb, is_tup, g_0, g_s, p_d, p_own, p_ref, d_d, d_own, a_d, a_own, a_ref, c_lst, c_dct, pk_nil, pk_cons, sa_nil, sa_cons, ao_nil, ao_cons, b_add, b_sub, b_mul, b_div, b_mod, b_pow, b_cat, n_int, n_bl, cv, c_eq, c_ne, c_lt, c_le, c_gt, c_ge, c_in, c_notIn, eq_int, x_lst, x_tup, x_dct, tr_bl, tr_int, bi_len, bi_lent, bi_abs, bi_int, bi_all, bi_list, bi_listk, bi_listt, bi_tuple, bi_tuplet, io_lst, io_klst, io_tup, k_nil, k_cons, k_asg, k_asgS, k_asgN, k_setix, k_ex, k_ret, k_retN, k_iff, k_whl, k_for, k_brk, k_cont, lo_nil, lo_cons, li_some, as_nm, as_tup, as_0, as_s, f_rt, f_own, f_nx, R.bind_ok, R.of_some, Option.bind_some, Option.map_some, List.length_cons, List.length_nil, List.set_cons_zero, List.set_cons_succ, List.map_cons, List.map_nil, List.replicate, List.cons_append, List.nil_append, if_true, if_false, Bool.false_eq_true, len_t hl, hi]
      | some c =>
        have hi : (i : Int) < (cs.length : Int) := by have := (List.getElem?_eq_some_iff.mp e).1; omega
        simp [e_kN, e_kB, e_kI, e_kS, e_var, e_glb, e_fnv, e_typ, e_neg, e_bin, e_cmp, e_chn, e_and, e_or, e_not, e_ife, e_tup, e_lst, e_ix, e_slc, e_call, e_bi, e_mt, e_lc, e_dc, e_isE, e_isV, e_attr, e_dyn, e_pm, ra_0, t_isV, t_isE, t_dyn, i_lst, i_tup, i_slc, i_ix, i_bin, k_raise, k_asgP, k_asgX, sp_nil, sp_cons, sx_nil, sx_cons, f_ex, R.bind_ex, t_and, t_or, t_not, t_var, t_cmp, t_chn, t_call, t_bi, t_ix, i_var, i_call, i_bi, i_rng, i_zip, ss_nil, ss_cons, so_none, so_some, ea_nil, ea_cons, an_1, an_2, or_1, or_2, tan_1, tan_2, tor_1, tor_2, tal_0, tal_1, ep_0, ep_1, st_, st2_, tu_nil, tu_c, w_0, w_s, ca_ok, at1, at2_0, at2_1, at4_0, at4_1, at4_2, at4_3, bo_nil, bo_c, io_nil, io_c, is_int, is_intb, is_tup, g_0, g_s, p_d, p_own, p_ref, d_d, d_own, a_d, a_own, a_ref, c_lst, c_dct, pk_nil, pk_cons, sa_nil, sa_cons, ao_nil, ao_cons, b_add, b_sub, b_mul, b_div, b_mod, b_pow, b_cat, n_int, n_bl, cv, c_eq, c_ne, c_lt, c_le, c_gt, c_ge, c_in, c_notIn, eq_int, x_lst, x_tup, x_dct, tr_bl, tr_int, bi_len, bi_lent, bi_abs, bi_int, bi_all, bi_list, bi_listk, bi_listt, bi_tuple, bi_tuplet, io_lst, io_klst, io_tup, k_nil, k_cons, k_asg, k_asgS, k_asgN, k_setix, k_ex, k_ret, k_retN, k_iff, k_whl, k_for, k_brk, k_cont, lo_nil, lo_cons, li_some, as_nm, as_tup, as_0, as_s, f_rt, f_own, f_nx, R.bind_ok, R.of_some, Option.bind_some, Option.map_some, List.length_cons, List.length_nil, List.set_cons_zero, List.set_cons_succ, List.map_cons, List.map_nil, List.replicate, List.cons_append, List.nil_append, if_true, if_false, Bool.false_eq_true, len_t hl, hi, ix_t hl e, hw]
    rw [t0, R.bind_ok]
    cases e : cs[i]? with
    | none =>
      rw [run_end (List.getElem?_eq_none_iff.mp e)]
      rfl
    | some c =>
      cases q : p c with
      | false =>
        rw [run_not e q]
        simp only [q, Bool.false_eq_true, if_false]
        rfl
      | true =>
        have hi := (List.getElem?_eq_some_iff.mp e).1
        simp only [q, if_true]
        rw [k_cons, k_aug1 (a := (i : Nat)) (b := 1) (c := ((i + 1 : Nat) : Int)) (S1 := S) Fs gs 100000 _ S 1 .Add (.kI 1) rfl rfl (by unfold augI; simp)]
        obtain ⟨n', rfl⟩ : ∃ n', n = n' + 1 := ⟨n - 1, by omega⟩
        have ih := end_loop Fs S hw hl n' m (i + 1) (by omega) (by omega)
        rw [run_yes e q]
        have e2 : i + (1 + run p (cs.drop (i + 1))) = i + 1 + run p (cs.drop (i + 1)) := by omega
        rw [e2]
        exact ih
theorem end_run (n : Nat) (S : Store) {p : Nat → Bool} {w : Str} (hw : ∀ c, cmpD .In (sg c) (.str w) = some (p c)) {cs : List Nat} (hl : cs.length ≤ 4000) (i : Nat) : C (n + 1) 4 [.d (.str (tx cs)), I (i : Nat), .d (.str w)] S = .ok (I ((i + run p (cs.drop i) : Nat) : Int)) S := by
  rw [call_d (fd := ⟨3, 3, b4, false⟩) rfl, r_run _ _ _ _ _ _ rfl]
  have e := end_loop (C n) S hw hl 4000 100000 i (by omega) (by omega)
  have e2 : semS (C n) gs 100000 (.whl tE [.aug 1 .Add (.kI 1)]) [some (.d (.str (tx cs))), some (I (i : Nat)), some (.d (.str w))] S = .ok (.nx, [some (.d (.str (tx cs))), some (I ((i + run p (cs.drop i) : Nat) : Int)), some (.d (.str w))]) S := e
  show fin S.length (semB (C n) gs 100000 [.whl tE [.aug 1 .Add (.kI 1)], .ret (.var 1)] [some (.d (.str (tx cs))), some (I (i : Nat)), some (.d (.str w))] S) = _
  rw [k_cons, e2]
  simp [e_kN, e_kB, e_kI, e_kS, e_var, e_glb, e_fnv, e_typ, e_neg, e_bin, e_cmp, e_chn, e_and, e_or, e_not, e_ife, e_tup, e_lst, e_ix, e_slc, e_call, e_bi, e_mt, e_lc, e_dc, e_isE, e_isV, e_attr, e_dyn, e_pm, ra_0, t_isV, t_isE, t_dyn, i_lst, i_tup, i_slc, i_ix, i_bin, k_raise, k_asgP, k_asgX, sp_nil, sp_cons, sx_nil, sx_cons, f_ex, R.bind_ex, t_and, t_or, t_not, t_var, t_cmp, t_chn, t_call, t_bi, t_ix, i_var, i_call, i_bi, i_rng, i_zip, ss_nil, ss_cons, so_none, so_some, ea_nil, ea_cons, an_1, an_2, or_1, or_2, tan_1, tan_2, tor_1, tor_2, tal_0, tal_1, ep_0, ep_1, st_, st2_, tu_nil, tu_c, w_0, w_s, ca_ok, at1, at2_0, at2_1, at4_0, at4_1, at4_2, at4_3, bo_nil, bo_c, io_nil, io_c, is_int, is_intb, is_tup, g_0, g_s, p_d, p_own, p_ref, d_d, d_own, a_d, a_own, a_ref, c_lst, c_dct, pk_nil, pk_cons, sa_nil, sa_cons, ao_nil, ao_cons, b_add, b_sub, b_mul, b_div, b_mod, b_pow, b_cat, n_int, n_bl, cv, c_eq, c_ne, c_lt, c_le, c_gt, c_ge, c_in, c_notIn, eq_int, x_lst, x_tup, x_dct, tr_bl, tr_int, bi_len, bi_lent, bi_abs, bi_int, bi_all, bi_list, bi_listk, bi_listt, bi_tuple, bi_tuplet, io_lst, io_klst, io_tup, k_nil, k_cons, k_asg, k_asgS, k_asgN, k_setix, k_ex, k_ret, k_retN, k_iff, k_whl, k_for, k_brk, k_cont, lo_nil, lo_cons, li_some, as_nm, as_tup, as_0, as_s, f_rt, f_own, f_nx, R.bind_ok, R.of_some, Option.bind_some, Option.map_some, List.length_cons, List.length_nil, List.set_cons_zero, List.set_cons_succ, List.map_cons, List.map_nil, List.replicate, List.cons_append, List.nil_append, if_true, if_false, Bool.false_eq_true]
end K50

set_option maxHeartbeats 2000000
namespace K50
open Mi
open PySem (Str)
/-! ### one token -/
/-- the part of a text -/
def part (cs : List Nat) (i j : Nat) : List Nat := (cs.drop i).take (j - i)
theorem cut_t {cs : List Nat} {i j : Nat} (hl : cs.length ≤ 4000) (h1 : i ≤ cs.length) (h2 : j ≤ cs.length) : slcD (.str (tx cs)) (some (i : Nat)) (some (j : Nat)) = some (.d (.str (tx (part cs i j)))) := by
  show (if (tx cs).length ≤ PySem.sizeLine then some (Val.d (.str (L2.cutS (tx cs) (some (i : Nat)) (some (j : Nat))))) else none) = _
  rw [if_pos (by rw [tx_len]; exact Nat.le_trans hl line)]
  unfold L2.cutS part tx
  rw [HT.sIx_nat, HT.sIx_nat]
  have e : (Str.mk cs.toArray).length = cs.length := tx_len cs
  rw [e, Nat.min_eq_left h1, Nat.min_eq_left h2]
theorem part_len (cs : List Nat) (i j : Nat) (h : j ≤ cs.length) (hi : i ≤ j) : (part cs i j).length = j - i := by
  unfold part
  rw [List.length_take, List.length_drop]
  omega
theorem part_run {p : Nat → Bool} {cs : List Nat} {i : Nat} : part cs i (i + run p (cs.drop i)) = (cs.drop i).takeWhile p := by
  unfold part run
  rw [show i + ((cs.drop i).takeWhile p).length - i = ((cs.drop i).takeWhile p).length by omega]
  exact (List.prefix_iff_eq_take.mp (List.takeWhile_prefix p)).symm
theorem run_bd (p : Nat → Bool) {cs : List Nat} {i : Nat} (hi : i ≤ cs.length) : i + run p (cs.drop i) ≤ cs.length := by
  have := run_le p (cs.drop i)
  rw [List.length_drop] at this
  omega
theorem val_lt : ∀ (cs : List Nat) (a : Nat), (∀ c ∈ cs, isD c = true) → cs.foldl (fun acc c => acc * 10 + (c - 48)) a < (a + 1) * 10 ^ cs.length
  | [], a, _ => by simp
  | c :: cs, a, h => by
    have hc : isD c = true := h c List.mem_cons_self
    unfold isD at hc
    simp only [Bool.and_eq_true, decide_eq_true_eq] at hc
    have ih := val_lt cs (a * 10 + (c - 48)) fun d hd => h d (List.mem_cons_of_mem _ hd)
    rw [List.foldl_cons, List.length_cons]
    refine Nat.lt_of_lt_of_le ih ?_
    rw [Nat.pow_succ, ← Nat.mul_assoc, Nat.mul_right_comm]
    exact Nat.mul_le_mul_right _ (by omega)
/-- the number that digits stand for -/
theorem int_t {cs : List Nat} (h : ∀ c ∈ cs, isD c = true) (hn : cs ≠ []) (hl : cs.length ≤ 12) : ∃ v : Int, biD .int [.str (tx cs)] = some (I v) ∧ v.natAbs < 10 ^ 12 := by
  have e : PySem.intText? (tx cs) = some ((PySem.NumText.digitsVal cs : Nat) : Int) := PySem.intText_digits (x := tx cs) (fun c hc => by
    have z := h c hc
    unfold isD at z
    rw [Bool.and_eq_true, decide_eq_true_eq, decide_eq_true_eq] at z
    exact z) hn (by rw [tx_len]; omega)
  refine ⟨((PySem.NumText.digitsVal cs : Nat) : Int), ?_, ?_⟩
  · show (if (tx cs).length ≤ 640 then (PySem.intText? (tx cs)).map fun n => Val.d (.int n) else none) = _
    rw [if_pos (by rw [tx_len]; omega), e]
    rfl
  · rw [Int.natAbs_natCast]
    have q := val_lt cs 0 h
    have q2 : 10 ^ cs.length ≤ 10 ^ 12 := Nat.pow_le_pow_right (by omega) hl
    rw [Nat.zero_add, Nat.one_mul] at q
    exact Nat.lt_of_lt_of_le q q2
/-- what stands at a place: an error there, or a token and the place behind it -/
def tokAt (cs : List Nat) (i c : Nat) : Nat ⊕ (D × D × Nat) :=
  if isL c then (if 10 < run isL (cs.drop i) then .inl (i + 10) else .inr (.str "word", .str (tx (part cs i (i + run isL (cs.drop i)))), i + run isL (cs.drop i)))
  else if isD c then (if c = 48 ∧ 1 < run isD (cs.drop i) then .inl (i + 1) else if 12 < run isD (cs.drop i) then .inl (i + 12)
    else .inr (.str "int", (match biD .int [.str (tx (part cs i (i + run isD (cs.drop i))))] with
      | some (.d v) => v
      | _ => .non), i + run isD (cs.drop i)))
  else if isS c then .inr (.str "sign", sg c, i + 1) else .inl i
theorem g_0' : gs[0]? = some (.int 12) := rfl
theorem g_1' : gs[1]? = some (.int 10) := rfl
theorem g_2' : gs[2]? = some (.int 4000) := rfl
theorem g_3' : gs[3]? = some (.str "abcdefghijklmnopqrstuvwxyz") := rfl
theorem g_4' : gs[4]? = some (.str "0123456789") := rfl
theorem g_5' : gs[5]? = some (.str ";,()/-#.") := rfl
theorem sub_gt (i r k : Nat) : decide (((k : Nat) : Int) < ((i + r : Nat) : Int) - ((i : Nat) : Int)) = decide (k < r) := by
  rw [decide_eq_decide]; omega
theorem sub_gt10 (i r : Nat) : decide ((10 : Int) < ((i + r : Nat) : Int) - ((i : Nat) : Int)) = decide (10 < r) := sub_gt i r 10
theorem sub_gt12 (i r : Nat) : decide ((12 : Int) < ((i + r : Nat) : Int) - ((i : Nat) : Int)) = decide (12 < r) := sub_gt i r 12
theorem sub_gt1 (i r : Nat) : decide ((1 : Int) < ((i + r : Nat) : Int) - ((i : Nat) : Int)) = decide (1 < r) := sub_gt i r 1
theorem q10 (i r : Nat) : ((10 : Int) < (i : Int) + (r : Int) - (i : Int)) ↔ 10 < r := by omega
theorem q12 (i r : Nat) : ((12 : Int) < (i : Int) + (r : Int) - (i : Int)) ↔ 12 < r := by omega
theorem q1 (i r : Nat) : ((1 : Int) < (i : Int) + (r : Int) - (i : Int)) ↔ 1 < r := by omega
theorem eq_0 (c : Nat) : eqD (sg c) (.str "0") = some (decide (c = 48)) := by
  show some (decide ((⟨#[c]⟩ : Str) = Str.ofString "0")) = _
  have e : Str.ofString "0" = (⟨#[48]⟩ : Str) := by decide
  rw [e]
  congr 1
  rw [decide_eq_decide]
  simp
theorem tw_all {p : Nat → Bool} : ∀ (l : List Nat) (x : Nat), x ∈ l.takeWhile p → p x = true
  | [], x, h => by simp at h
  | y :: l, x, h => by
    rw [List.takeWhile_cons] at h
    by_cases z : p y = true
    · rw [if_pos z] at h
      rcases List.mem_cons.mp h with h | h
      · rw [h]; exact z
      · exact tw_all l x h
    · rw [if_neg z] at h; simp at h
/-- the program's token -/
theorem tok_run (n : Nat) (S : Store) {cs : List Nat} (hl : cs.length ≤ 4000) {i c : Nat} (e : cs[i]? = some c) : C (n + 2) 3 [.d (.str (tx cs)), I (i : Nat)] S = match tokAt cs i c with
    | .inl p => .ex 1 (.int ((p : Nat) : Int)) S
    | .inr (k, v, j) => .ok (.d (.tup [k, v, .int ((j : Nat) : Int)])) S := by
  have hi := (List.getElem?_eq_some_iff.mp e).1
  rw [call_d (fd := ⟨2, 3, b3, false⟩) rfl, r_run _ _ _ _ _ _ rfl]
  unfold tokAt
  have bd := fun p => run_bd p (cs := cs) (i := i) (by omega)
  have sz : ∀ k, k ≤ 3 → k ≤ PySem.sizeLine := fun k h => Nat.le_trans h (by decide)
  cases hL : isL c with
  | true =>
    have er := end_run n S in_L hl i
    rw [Int.natCast_add] at er
    by_cases h10 : 10 < run isL (cs.drop i)
    · have d : decide (10 < run isL (cs.drop i)) = true := decide_eq_true h10
      rw [if_pos rfl, if_pos h10]
      simp [b3, e_kN, e_kB, e_kI, e_kS, e_var, e_glb, e_fnv, e_typ, e_neg, e_bin, e_cmp, e_chn, e_and, e_or, e_not, e_ife, e_tup, e_lst, e_ix, e_slc, e_call, e_bi, e_mt, e_lc, e_dc, e_isE, e_isV, e_attr, e_dyn, e_pm, ra_0, t_isV, t_isE, t_dyn, i_lst, i_tup, i_slc, i_ix, i_bin, k_raise, k_asgP, k_asgX, sp_nil, sp_cons, sx_nil, sx_cons, f_ex, R.bind_ex, t_and, t_or, t_not, t_var, t_cmp, t_chn, t_call, t_bi, t_ix, i_var, i_call, i_bi, i_rng, i_zip, ss_nil, ss_cons, so_none, so_some, ea_nil, ea_cons, an_1, an_2, or_1, or_2, tan_1, tan_2, tor_1, tor_2, tal_0, tal_1, ep_0, ep_1, st_, st2_, tu_nil, tu_c, w_0, w_s, ca_ok, at1, at2_0, at2_1, at4_0, at4_1, at4_2, at4_3, bo_nil, bo_c, io_nil, io_c, is_int, is_intb, is_tup, g_0, g_s, p_d, p_own, p_ref, d_d, d_own, a_d, a_own, a_ref, c_lst, c_dct, pk_nil, pk_cons, sa_nil, sa_cons, ao_nil, ao_cons, b_add, b_sub, b_mul, b_div, b_mod, b_pow, b_cat, n_int, n_bl, cv, c_eq, c_ne, c_lt, c_le, c_gt, c_ge, c_in, c_notIn, eq_int, x_lst, x_tup, x_dct, tr_bl, tr_int, bi_len, bi_lent, bi_abs, bi_int, bi_all, bi_list, bi_listk, bi_listt, bi_tuple, bi_tuplet, io_lst, io_klst, io_tup, k_nil, k_cons, k_asg, k_asgS, k_asgN, k_setix, k_ex, k_ret, k_retN, k_iff, k_whl, k_for, k_brk, k_cont, lo_nil, lo_cons, li_some, as_nm, as_tup, as_0, as_s, f_rt, f_own, f_nx, R.bind_ok, R.of_some, Option.bind_some, Option.map_some, List.length_cons, List.length_nil, List.set_cons_zero, List.set_cons_succ, List.map_cons, List.map_nil, List.replicate, List.cons_append, List.nil_append, if_true, if_false, Bool.false_eq_true, g_1', g_3', ix_t hl e, in_L, hL, er, q10, h10, tr_bl, PySem.sizeLine, strictAll, Val.dat]
    · have d : decide (10 < run isL (cs.drop i)) = false := decide_eq_false h10
      have ct := cut_t hl (show i ≤ cs.length by omega) (bd isL)
      rw [Int.natCast_add] at ct
      rw [if_pos rfl, if_neg h10]
      simp [b3, e_kN, e_kB, e_kI, e_kS, e_var, e_glb, e_fnv, e_typ, e_neg, e_bin, e_cmp, e_chn, e_and, e_or, e_not, e_ife, e_tup, e_lst, e_ix, e_slc, e_call, e_bi, e_mt, e_lc, e_dc, e_isE, e_isV, e_attr, e_dyn, e_pm, ra_0, t_isV, t_isE, t_dyn, i_lst, i_tup, i_slc, i_ix, i_bin, k_raise, k_asgP, k_asgX, sp_nil, sp_cons, sx_nil, sx_cons, f_ex, R.bind_ex, t_and, t_or, t_not, t_var, t_cmp, t_chn, t_call, t_bi, t_ix, i_var, i_call, i_bi, i_rng, i_zip, ss_nil, ss_cons, so_none, so_some, ea_nil, ea_cons, an_1, an_2, or_1, or_2, tan_1, tan_2, tor_1, tor_2, tal_0, tal_1, ep_0, ep_1, st_, st2_, tu_nil, tu_c, w_0, w_s, ca_ok, at1, at2_0, at2_1, at4_0, at4_1, at4_2, at4_3, bo_nil, bo_c, io_nil, io_c, is_int, is_intb, is_tup, g_0, g_s, p_d, p_own, p_ref, d_d, d_own, a_d, a_own, a_ref, c_lst, c_dct, pk_nil, pk_cons, sa_nil, sa_cons, ao_nil, ao_cons, b_add, b_sub, b_mul, b_div, b_mod, b_pow, b_cat, n_int, n_bl, cv, c_eq, c_ne, c_lt, c_le, c_gt, c_ge, c_in, c_notIn, eq_int, x_lst, x_tup, x_dct, tr_bl, tr_int, bi_len, bi_lent, bi_abs, bi_int, bi_all, bi_list, bi_listk, bi_listt, bi_tuple, bi_tuplet, io_lst, io_klst, io_tup, k_nil, k_cons, k_asg, k_asgS, k_asgN, k_setix, k_ex, k_ret, k_retN, k_iff, k_whl, k_for, k_brk, k_cont, lo_nil, lo_cons, li_some, as_nm, as_tup, as_0, as_s, f_rt, f_own, f_nx, R.bind_ok, R.of_some, Option.bind_some, Option.map_some, List.length_cons, List.length_nil, List.set_cons_zero, List.set_cons_succ, List.map_cons, List.map_nil, List.replicate, List.cons_append, List.nil_append, if_true, if_false, Bool.false_eq_true, g_1', g_3', ix_t hl e, in_L, hL, er, q10, h10, tr_bl, ct, PySem.sizeLine, strictAll, Val.dat]
  | false =>
    cases hD : isD c with
    | true =>
      have er := end_run n S in_D hl i
      rw [Int.natCast_add] at er
      rw [if_neg Bool.false_ne_true, if_pos rfl]
      by_cases h0 : c = 48 ∧ 1 < run isD (cs.drop i)
      · rw [if_pos h0]
        obtain ⟨h1, h2⟩ := h0
        have d : decide (1 < run isD (cs.drop i)) = true := decide_eq_true h2
        have d2 : decide (c = 48) = true := decide_eq_true h1
        simp [b3, e_kN, e_kB, e_kI, e_kS, e_var, e_glb, e_fnv, e_typ, e_neg, e_bin, e_cmp, e_chn, e_and, e_or, e_not, e_ife, e_tup, e_lst, e_ix, e_slc, e_call, e_bi, e_mt, e_lc, e_dc, e_isE, e_isV, e_attr, e_dyn, e_pm, ra_0, t_isV, t_isE, t_dyn, i_lst, i_tup, i_slc, i_ix, i_bin, k_raise, k_asgP, k_asgX, sp_nil, sp_cons, sx_nil, sx_cons, f_ex, R.bind_ex, t_and, t_or, t_not, t_var, t_cmp, t_chn, t_call, t_bi, t_ix, i_var, i_call, i_bi, i_rng, i_zip, ss_nil, ss_cons, so_none, so_some, ea_nil, ea_cons, an_1, an_2, or_1, or_2, tan_1, tan_2, tor_1, tor_2, tal_0, tal_1, ep_0, ep_1, st_, st2_, tu_nil, tu_c, w_0, w_s, ca_ok, at1, at2_0, at2_1, at4_0, at4_1, at4_2, at4_3, bo_nil, bo_c, io_nil, io_c, is_int, is_intb, is_tup, g_0, g_s, p_d, p_own, p_ref, d_d, d_own, a_d, a_own, a_ref, c_lst, c_dct, pk_nil, pk_cons, sa_nil, sa_cons, ao_nil, ao_cons, b_add, b_sub, b_mul, b_div, b_mod, b_pow, b_cat, n_int, n_bl, cv, c_eq, c_ne, c_lt, c_le, c_gt, c_ge, c_in, c_notIn, eq_int, x_lst, x_tup, x_dct, tr_bl, tr_int, bi_len, bi_lent, bi_abs, bi_int, bi_all, bi_list, bi_listk, bi_listt, bi_tuple, bi_tuplet, io_lst, io_klst, io_tup, k_nil, k_cons, k_asg, k_asgS, k_asgN, k_setix, k_ex, k_ret, k_retN, k_iff, k_whl, k_for, k_brk, k_cont, lo_nil, lo_cons, li_some, as_nm, as_tup, as_0, as_s, f_rt, f_own, f_nx, R.bind_ok, R.of_some, Option.bind_some, Option.map_some, List.length_cons, List.length_nil, List.set_cons_zero, List.set_cons_succ, List.map_cons, List.map_nil, List.replicate, List.cons_append, List.nil_append, if_true, if_false, Bool.false_eq_true, g_1', g_3', g_4', ix_t hl e, in_L, in_D, hL, hD, er, q1, h2, eq_0, d2, tr_bl, PySem.sizeLine, strictAll, Val.dat]
      · rw [if_neg h0]
        have d0 : (match decide (c = 48) with | true => decide (1 < run isD (cs.drop i)) | false => false) = false := by
          by_cases z : c = 48
          · rw [decide_eq_true z, decide_eq_false fun q => h0 ⟨z, q⟩]
          · rw [decide_eq_false z]
        by_cases h12 : 12 < run isD (cs.drop i)
        · rw [if_pos h12]
          have d : decide (12 < run isD (cs.drop i)) = true := decide_eq_true h12
          by_cases z : c = 48
          · have d2 : decide (c = 48) = true := decide_eq_true z
            have z1 : ¬ 1 < run isD (cs.drop i) := fun q => h0 ⟨z, q⟩
            simp [b3, e_kN, e_kB, e_kI, e_kS, e_var, e_glb, e_fnv, e_typ, e_neg, e_bin, e_cmp, e_chn, e_and, e_or, e_not, e_ife, e_tup, e_lst, e_ix, e_slc, e_call, e_bi, e_mt, e_lc, e_dc, e_isE, e_isV, e_attr, e_dyn, e_pm, ra_0, t_isV, t_isE, t_dyn, i_lst, i_tup, i_slc, i_ix, i_bin, k_raise, k_asgP, k_asgX, sp_nil, sp_cons, sx_nil, sx_cons, f_ex, R.bind_ex, t_and, t_or, t_not, t_var, t_cmp, t_chn, t_call, t_bi, t_ix, i_var, i_call, i_bi, i_rng, i_zip, ss_nil, ss_cons, so_none, so_some, ea_nil, ea_cons, an_1, an_2, or_1, or_2, tan_1, tan_2, tor_1, tor_2, tal_0, tal_1, ep_0, ep_1, st_, st2_, tu_nil, tu_c, w_0, w_s, ca_ok, at1, at2_0, at2_1, at4_0, at4_1, at4_2, at4_3, bo_nil, bo_c, io_nil, io_c, is_int, is_intb, is_tup, g_0, g_s, p_d, p_own, p_ref, d_d, d_own, a_d, a_own, a_ref, c_lst, c_dct, pk_nil, pk_cons, sa_nil, sa_cons, ao_nil, ao_cons, b_add, b_sub, b_mul, b_div, b_mod, b_pow, b_cat, n_int, n_bl, cv, c_eq, c_ne, c_lt, c_le, c_gt, c_ge, c_in, c_notIn, eq_int, x_lst, x_tup, x_dct, tr_bl, tr_int, bi_len, bi_lent, bi_abs, bi_int, bi_all, bi_list, bi_listk, bi_listt, bi_tuple, bi_tuplet, io_lst, io_klst, io_tup, k_nil, k_cons, k_asg, k_asgS, k_asgN, k_setix, k_ex, k_ret, k_retN, k_iff, k_whl, k_for, k_brk, k_cont, lo_nil, lo_cons, li_some, as_nm, as_tup, as_0, as_s, f_rt, f_own, f_nx, R.bind_ok, R.of_some, Option.bind_some, Option.map_some, List.length_cons, List.length_nil, List.set_cons_zero, List.set_cons_succ, List.map_cons, List.map_nil, List.replicate, List.cons_append, List.nil_append, if_true, if_false, Bool.false_eq_true, g_0', g_1', g_3', g_4', ix_t hl e, in_L, in_D, hL, hD, er, q1, q12, eq_0, h12, z1, d2, tr_bl, PySem.sizeLine, strictAll, Val.dat]
          · have d2 : decide (c = 48) = false := decide_eq_false z
            simp [b3, e_kN, e_kB, e_kI, e_kS, e_var, e_glb, e_fnv, e_typ, e_neg, e_bin, e_cmp, e_chn, e_and, e_or, e_not, e_ife, e_tup, e_lst, e_ix, e_slc, e_call, e_bi, e_mt, e_lc, e_dc, e_isE, e_isV, e_attr, e_dyn, e_pm, ra_0, t_isV, t_isE, t_dyn, i_lst, i_tup, i_slc, i_ix, i_bin, k_raise, k_asgP, k_asgX, sp_nil, sp_cons, sx_nil, sx_cons, f_ex, R.bind_ex, t_and, t_or, t_not, t_var, t_cmp, t_chn, t_call, t_bi, t_ix, i_var, i_call, i_bi, i_rng, i_zip, ss_nil, ss_cons, so_none, so_some, ea_nil, ea_cons, an_1, an_2, or_1, or_2, tan_1, tan_2, tor_1, tor_2, tal_0, tal_1, ep_0, ep_1, st_, st2_, tu_nil, tu_c, w_0, w_s, ca_ok, at1, at2_0, at2_1, at4_0, at4_1, at4_2, at4_3, bo_nil, bo_c, io_nil, io_c, is_int, is_intb, is_tup, g_0, g_s, p_d, p_own, p_ref, d_d, d_own, a_d, a_own, a_ref, c_lst, c_dct, pk_nil, pk_cons, sa_nil, sa_cons, ao_nil, ao_cons, b_add, b_sub, b_mul, b_div, b_mod, b_pow, b_cat, n_int, n_bl, cv, c_eq, c_ne, c_lt, c_le, c_gt, c_ge, c_in, c_notIn, eq_int, x_lst, x_tup, x_dct, tr_bl, tr_int, bi_len, bi_lent, bi_abs, bi_int, bi_all, bi_list, bi_listk, bi_listt, bi_tuple, bi_tuplet, io_lst, io_klst, io_tup, k_nil, k_cons, k_asg, k_asgS, k_asgN, k_setix, k_ex, k_ret, k_retN, k_iff, k_whl, k_for, k_brk, k_cont, lo_nil, lo_cons, li_some, as_nm, as_tup, as_0, as_s, f_rt, f_own, f_nx, R.bind_ok, R.of_some, Option.bind_some, Option.map_some, List.length_cons, List.length_nil, List.set_cons_zero, List.set_cons_succ, List.map_cons, List.map_nil, List.replicate, List.cons_append, List.nil_append, if_true, if_false, Bool.false_eq_true, g_0', g_1', g_3', g_4', ix_t hl e, in_L, in_D, hL, hD, er, q1, q12, eq_0, h12, z, d2, tr_bl, PySem.sizeLine, strictAll, Val.dat]
        · rw [if_neg h12]
          have d : decide (12 < run isD (cs.drop i)) = false := decide_eq_false h12
          have ct := cut_t hl (show i ≤ cs.length by omega) (bd isD)
          rw [Int.natCast_add] at ct
          have pr := part_run (p := isD) (cs := cs) (i := i)
          obtain ⟨v, ev, _⟩ := int_t (cs := part cs i (i + run isD (cs.drop i))) (by rw [pr]; exact fun x hx => tw_all _ x hx) (by
              rw [pr]
              intro q
              have : run isD (cs.drop i) = 0 := by unfold run; rw [q]; rfl
              rw [run_yes e hD] at this
              omega) (by rw [part_len _ _ _ (bd isD) (by omega)]; omega)
          rw [ev]
          by_cases z : c = 48
          · have d2 : decide (c = 48) = true := decide_eq_true z
            have z1 : ¬ 1 < run isD (cs.drop i) := fun q => h0 ⟨z, q⟩
            simp [b3, e_kN, e_kB, e_kI, e_kS, e_var, e_glb, e_fnv, e_typ, e_neg, e_bin, e_cmp, e_chn, e_and, e_or, e_not, e_ife, e_tup, e_lst, e_ix, e_slc, e_call, e_bi, e_mt, e_lc, e_dc, e_isE, e_isV, e_attr, e_dyn, e_pm, ra_0, t_isV, t_isE, t_dyn, i_lst, i_tup, i_slc, i_ix, i_bin, k_raise, k_asgP, k_asgX, sp_nil, sp_cons, sx_nil, sx_cons, f_ex, R.bind_ex, t_and, t_or, t_not, t_var, t_cmp, t_chn, t_call, t_bi, t_ix, i_var, i_call, i_bi, i_rng, i_zip, ss_nil, ss_cons, so_none, so_some, ea_nil, ea_cons, an_1, an_2, or_1, or_2, tan_1, tan_2, tor_1, tor_2, tal_0, tal_1, ep_0, ep_1, st_, st2_, tu_nil, tu_c, w_0, w_s, ca_ok, at1, at2_0, at2_1, at4_0, at4_1, at4_2, at4_3, bo_nil, bo_c, io_nil, io_c, is_int, is_intb, is_tup, g_0, g_s, p_d, p_own, p_ref, d_d, d_own, a_d, a_own, a_ref, c_lst, c_dct, pk_nil, pk_cons, sa_nil, sa_cons, ao_nil, ao_cons, b_add, b_sub, b_mul, b_div, b_mod, b_pow, b_cat, n_int, n_bl, cv, c_eq, c_ne, c_lt, c_le, c_gt, c_ge, c_in, c_notIn, eq_int, x_lst, x_tup, x_dct, tr_bl, tr_int, bi_len, bi_lent, bi_abs, bi_int, bi_all, bi_list, bi_listk, bi_listt, bi_tuple, bi_tuplet, io_lst, io_klst, io_tup, k_nil, k_cons, k_asg, k_asgS, k_asgN, k_setix, k_ex, k_ret, k_retN, k_iff, k_whl, k_for, k_brk, k_cont, lo_nil, lo_cons, li_some, as_nm, as_tup, as_0, as_s, f_rt, f_own, f_nx, R.bind_ok, R.of_some, Option.bind_some, Option.map_some, List.length_cons, List.length_nil, List.set_cons_zero, List.set_cons_succ, List.map_cons, List.map_nil, List.replicate, List.cons_append, List.nil_append, if_true, if_false, Bool.false_eq_true, g_0', g_1', g_3', g_4', ix_t hl e, in_L, in_D, hL, hD, er, q1, q12, eq_0, h12, z1, d2, tr_bl, ct, ev, PySem.sizeLine, strictAll, Val.dat]
          · have d2 : decide (c = 48) = false := decide_eq_false z
            simp [b3, e_kN, e_kB, e_kI, e_kS, e_var, e_glb, e_fnv, e_typ, e_neg, e_bin, e_cmp, e_chn, e_and, e_or, e_not, e_ife, e_tup, e_lst, e_ix, e_slc, e_call, e_bi, e_mt, e_lc, e_dc, e_isE, e_isV, e_attr, e_dyn, e_pm, ra_0, t_isV, t_isE, t_dyn, i_lst, i_tup, i_slc, i_ix, i_bin, k_raise, k_asgP, k_asgX, sp_nil, sp_cons, sx_nil, sx_cons, f_ex, R.bind_ex, t_and, t_or, t_not, t_var, t_cmp, t_chn, t_call, t_bi, t_ix, i_var, i_call, i_bi, i_rng, i_zip, ss_nil, ss_cons, so_none, so_some, ea_nil, ea_cons, an_1, an_2, or_1, or_2, tan_1, tan_2, tor_1, tor_2, tal_0, tal_1, ep_0, ep_1, st_, st2_, tu_nil, tu_c, w_0, w_s, ca_ok, at1, at2_0, at2_1, at4_0, at4_1, at4_2, at4_3, bo_nil, bo_c, io_nil, io_c, is_int, is_intb, is_tup, g_0, g_s, p_d, p_own, p_ref, d_d, d_own, a_d, a_own, a_ref, c_lst, c_dct, pk_nil, pk_cons, sa_nil, sa_cons, ao_nil, ao_cons, b_add, b_sub, b_mul, b_div, b_mod, b_pow, b_cat, n_int, n_bl, cv, c_eq, c_ne, c_lt, c_le, c_gt, c_ge, c_in, c_notIn, eq_int, x_lst, x_tup, x_dct, tr_bl, tr_int, bi_len, bi_lent, bi_abs, bi_int, bi_all, bi_list, bi_listk, bi_listt, bi_tuple, bi_tuplet, io_lst, io_klst, io_tup, k_nil, k_cons, k_asg, k_asgS, k_asgN, k_setix, k_ex, k_ret, k_retN, k_iff, k_whl, k_for, k_brk, k_cont, lo_nil, lo_cons, li_some, as_nm, as_tup, as_0, as_s, f_rt, f_own, f_nx, R.bind_ok, R.of_some, Option.bind_some, Option.map_some, List.length_cons, List.length_nil, List.set_cons_zero, List.set_cons_succ, List.map_cons, List.map_nil, List.replicate, List.cons_append, List.nil_append, if_true, if_false, Bool.false_eq_true, g_0', g_1', g_3', g_4', ix_t hl e, in_L, in_D, hL, hD, er, q1, q12, eq_0, h12, z, d2, tr_bl, ct, ev, PySem.sizeLine, strictAll, Val.dat]
    | false =>
      rw [if_neg Bool.false_ne_true, if_neg Bool.false_ne_true]
      cases hS : isS c with
      | true =>
        simp [b3, e_kN, e_kB, e_kI, e_kS, e_var, e_glb, e_fnv, e_typ, e_neg, e_bin, e_cmp, e_chn, e_and, e_or, e_not, e_ife, e_tup, e_lst, e_ix, e_slc, e_call, e_bi, e_mt, e_lc, e_dc, e_isE, e_isV, e_attr, e_dyn, e_pm, ra_0, t_isV, t_isE, t_dyn, i_lst, i_tup, i_slc, i_ix, i_bin, k_raise, k_asgP, k_asgX, sp_nil, sp_cons, sx_nil, sx_cons, f_ex, R.bind_ex, t_and, t_or, t_not, t_var, t_cmp, t_chn, t_call, t_bi, t_ix, i_var, i_call, i_bi, i_rng, i_zip, ss_nil, ss_cons, so_none, so_some, ea_nil, ea_cons, an_1, an_2, or_1, or_2, tan_1, tan_2, tor_1, tor_2, tal_0, tal_1, ep_0, ep_1, st_, st2_, tu_nil, tu_c, w_0, w_s, ca_ok, at1, at2_0, at2_1, at4_0, at4_1, at4_2, at4_3, bo_nil, bo_c, io_nil, io_c, is_int, is_intb, is_tup, g_0, g_s, p_d, p_own, p_ref, d_d, d_own, a_d, a_own, a_ref, c_lst, c_dct, pk_nil, pk_cons, sa_nil, sa_cons, ao_nil, ao_cons, b_add, b_sub, b_mul, b_div, b_mod, b_pow, b_cat, n_int, n_bl, cv, c_eq, c_ne, c_lt, c_le, c_gt, c_ge, c_in, c_notIn, eq_int, x_lst, x_tup, x_dct, tr_bl, tr_int, bi_len, bi_lent, bi_abs, bi_int, bi_all, bi_list, bi_listk, bi_listt, bi_tuple, bi_tuplet, io_lst, io_klst, io_tup, k_nil, k_cons, k_asg, k_asgS, k_asgN, k_setix, k_ex, k_ret, k_retN, k_iff, k_whl, k_for, k_brk, k_cont, lo_nil, lo_cons, li_some, as_nm, as_tup, as_0, as_s, f_rt, f_own, f_nx, R.bind_ok, R.of_some, Option.bind_some, Option.map_some, List.length_cons, List.length_nil, List.set_cons_zero, List.set_cons_succ, List.map_cons, List.map_nil, List.replicate, List.cons_append, List.nil_append, if_true, if_false, Bool.false_eq_true, g_0', g_1', g_3', g_4', g_5', ix_t hl e, in_L, in_D, notIn_S, hL, hD, hS, tr_bl, PySem.sizeLine, strictAll, Val.dat]
      | false =>
        simp [b3, e_kN, e_kB, e_kI, e_kS, e_var, e_glb, e_fnv, e_typ, e_neg, e_bin, e_cmp, e_chn, e_and, e_or, e_not, e_ife, e_tup, e_lst, e_ix, e_slc, e_call, e_bi, e_mt, e_lc, e_dc, e_isE, e_isV, e_attr, e_dyn, e_pm, ra_0, t_isV, t_isE, t_dyn, i_lst, i_tup, i_slc, i_ix, i_bin, k_raise, k_asgP, k_asgX, sp_nil, sp_cons, sx_nil, sx_cons, f_ex, R.bind_ex, t_and, t_or, t_not, t_var, t_cmp, t_chn, t_call, t_bi, t_ix, i_var, i_call, i_bi, i_rng, i_zip, ss_nil, ss_cons, so_none, so_some, ea_nil, ea_cons, an_1, an_2, or_1, or_2, tan_1, tan_2, tor_1, tor_2, tal_0, tal_1, ep_0, ep_1, st_, st2_, tu_nil, tu_c, w_0, w_s, ca_ok, at1, at2_0, at2_1, at4_0, at4_1, at4_2, at4_3, bo_nil, bo_c, io_nil, io_c, is_int, is_intb, is_tup, g_0, g_s, p_d, p_own, p_ref, d_d, d_own, a_d, a_own, a_ref, c_lst, c_dct, pk_nil, pk_cons, sa_nil, sa_cons, ao_nil, ao_cons, b_add, b_sub, b_mul, b_div, b_mod, b_pow, b_cat, n_int, n_bl, cv, c_eq, c_ne, c_lt, c_le, c_gt, c_ge, c_in, c_notIn, eq_int, x_lst, x_tup, x_dct, tr_bl, tr_int, bi_len, bi_lent, bi_abs, bi_int, bi_all, bi_list, bi_listk, bi_listt, bi_tuple, bi_tuplet, io_lst, io_klst, io_tup, k_nil, k_cons, k_asg, k_asgS, k_asgN, k_setix, k_ex, k_ret, k_retN, k_iff, k_whl, k_for, k_brk, k_cont, lo_nil, lo_cons, li_some, as_nm, as_tup, as_0, as_s, f_rt, f_own, f_nx, R.bind_ok, R.of_some, Option.bind_some, Option.map_some, List.length_cons, List.length_nil, List.set_cons_zero, List.set_cons_succ, List.map_cons, List.map_nil, List.replicate, List.cons_append, List.nil_append, if_true, if_false, Bool.false_eq_true, g_0', g_1', g_3', g_4', g_5', ix_t hl e, in_L, in_D, notIn_S, hL, hD, hS, tr_bl, PySem.sizeLine, strictAll, Val.dat]
end K50

set_option maxHeartbeats 2000000
namespace K50
open Mi
open PySem (Str)
/-! ### the tokens of a text -/
def lex (cs : List Nat) : Nat → Nat → List D → Nat ⊕ List D
  | 0, _, acc => .inr acc
  | n + 1, i, acc => match cs[i]? with
    | none => .inr acc
    | some c => if isW c then lex cs n (i + 1) acc else match tokAt cs i c with
      | .inl p => .inl p
      | .inr (k, v, j) => lex cs n j (acc ++ [.tup [k, v, .int ((i : Nat) : Int)]])
theorem tok_gt {cs : List Nat} {i c : Nat} (e : cs[i]? = some c) {k v : D} {j : Nat} (h : tokAt cs i c = .inr (k, v, j)) : i < j ∧ j ≤ cs.length := by
  have hi := (List.getElem?_eq_some_iff.mp e).1
  have bd := fun p => run_bd p (cs := cs) (i := i) (by omega)
  unfold tokAt at h
  by_cases hL : isL c = true
  · rw [if_pos hL] at h
    by_cases h1 : 10 < run isL (cs.drop i)
    · rw [if_pos h1] at h; cases h
    · rw [if_neg h1] at h
      cases h
      have := run_yes e hL
      have := bd isL
      omega
  · rw [if_neg hL] at h
    by_cases hD : isD c = true
    · rw [if_pos hD] at h
      by_cases h1 : c = 48 ∧ 1 < run isD (cs.drop i)
      · rw [if_pos h1] at h; cases h
      · rw [if_neg h1] at h
        by_cases h2 : 12 < run isD (cs.drop i)
        · rw [if_pos h2] at h; cases h
        · rw [if_neg h2] at h
          cases h
          have := run_yes e hD
          have := bd isD
          omega
    · rw [if_neg hD] at h
      by_cases hS : isS c = true
      · rw [if_pos hS] at h; cases h; omega
      · rw [if_neg hS] at h; cases h
theorem last_get (S : Store) (c : Cell) : (S ++ [c])[S.length]? = some c := by simp
theorem last_set (S : Store) (c d : Cell) : (S ++ [c]).set S.length d = S ++ [d] := by simp
/-- found.append(x) -/
theorem app_run {Fs : Fns} {E : Env} {S : Store} {acc : List D} {i : Nat} {es : Ex} {x : D} (h1 : getV E i = some (.ref S.length)) (h2 : (sem Fs gs es).ev E (S ++ [.lst acc]) = .ok (.d x) (S ++ [.lst acc])) (hl : acc.length < 10000) :
    semS Fs gs 100000 (.ex (.mt .append (.var i) [es])) E (S ++ [.lst acc]) = .ok (.nx, E) (S ++ [.lst (acc ++ [x])]) := by
  have z : acc.length < PySem.sizeLine := Nat.lt_of_lt_of_le hl (by decide)
  rw [k_ex, e_mt]
  simp only [e_kN, e_kB, e_kI, e_kS, e_var, e_glb, e_fnv, e_typ, e_neg, e_bin, e_cmp, e_chn, e_and, e_or, e_not, e_ife, e_tup, e_lst, e_ix, e_slc, e_call, e_bi, e_mt, e_lc, e_dc, e_isE, e_isV, e_attr, e_dyn, e_pm, ra_0, t_isV, t_isE, t_dyn, i_lst, i_tup, i_slc, i_ix, i_bin, k_raise, k_asgP, k_asgX, sp_nil, sp_cons, sx_nil, sx_cons, f_ex, R.bind_ex, t_and, t_or, t_not, t_var, t_cmp, t_chn, t_call, t_bi, t_ix, i_var, i_call, i_bi, i_rng, i_zip, ss_nil, ss_cons, so_none, so_some, ea_nil, ea_cons, an_1, an_2, or_1, or_2, tan_1, tan_2, tor_1, tor_2, tal_0, tal_1, ep_0, ep_1, st_, st2_, tu_nil, tu_c, w_0, w_s, ca_ok, at1, at2_0, at2_1, at4_0, at4_1, at4_2, at4_3, bo_nil, bo_c, io_nil, io_c, is_int, is_intb, is_tup, g_0, g_s, p_d, p_own, p_ref, d_d, d_own, a_d, a_own, a_ref, c_lst, c_dct, pk_nil, pk_cons, sa_nil, sa_cons, ao_nil, ao_cons, b_add, b_sub, b_mul, b_div, b_mod, b_pow, b_cat, n_int, n_bl, cv, c_eq, c_ne, c_lt, c_le, c_gt, c_ge, c_in, c_notIn, eq_int, x_lst, x_tup, x_dct, tr_bl, tr_int, bi_len, bi_lent, bi_abs, bi_int, bi_all, bi_list, bi_listk, bi_listt, bi_tuple, bi_tuplet, io_lst, io_klst, io_tup, k_nil, k_cons, k_asg, k_asgS, k_asgN, k_setix, k_ex, k_ret, k_retN, k_iff, k_whl, k_for, k_brk, k_cont, lo_nil, lo_cons, li_some, as_nm, as_tup, as_0, as_s, f_rt, f_own, f_nx, R.bind_ok, R.of_some, Option.bind_some, Option.map_some, List.length_cons, List.length_nil, List.set_cons_zero, List.set_cons_succ, List.map_cons, List.map_nil, List.replicate, List.cons_append, List.nil_append, if_true, if_false, Bool.false_eq_true, h1, h2]
  have r : recv .append (.ref S.length) (S ++ [.lst acc]) = some () := by
    show (match (S ++ [Cell.lst acc])[S.length]? with
      | some (.lst _) => some ()
      | _ => none) = some ()
    rw [last_get]
  simp only [r, R.of_some, R.bind_ok, h2, e_kN, e_kB, e_kI, e_kS, e_var, e_glb, e_fnv, e_typ, e_neg, e_bin, e_cmp, e_chn, e_and, e_or, e_not, e_ife, e_tup, e_lst, e_ix, e_slc, e_call, e_bi, e_mt, e_lc, e_dc, e_isE, e_isV, e_attr, e_dyn, e_pm, ra_0, t_isV, t_isE, t_dyn, i_lst, i_tup, i_slc, i_ix, i_bin, k_raise, k_asgP, k_asgX, sp_nil, sp_cons, sx_nil, sx_cons, f_ex, R.bind_ex, t_and, t_or, t_not, t_var, t_cmp, t_chn, t_call, t_bi, t_ix, i_var, i_call, i_bi, i_rng, i_zip, ss_nil, ss_cons, so_none, so_some, ea_nil, ea_cons, an_1, an_2, or_1, or_2, tan_1, tan_2, tor_1, tor_2, tal_0, tal_1, ep_0, ep_1, st_, st2_, tu_nil, tu_c, w_0, w_s, ca_ok, at1, at2_0, at2_1, at4_0, at4_1, at4_2, at4_3, bo_nil, bo_c, io_nil, io_c, is_int, is_intb, is_tup, g_0, g_s, p_d, p_own, p_ref, d_d, d_own, a_d, a_own, a_ref, c_lst, c_dct, pk_nil, pk_cons, sa_nil, sa_cons, ao_nil, ao_cons, b_add, b_sub, b_mul, b_div, b_mod, b_pow, b_cat, n_int, n_bl, cv, c_eq, c_ne, c_lt, c_le, c_gt, c_ge, c_in, c_notIn, eq_int, x_lst, x_tup, x_dct, tr_bl, tr_int, bi_len, bi_lent, bi_abs, bi_int, bi_all, bi_list, bi_listk, bi_listt, bi_tuple, bi_tuplet, io_lst, io_klst, io_tup, k_nil, k_cons, k_asg, k_asgS, k_asgN, k_setix, k_ex, k_ret, k_retN, k_iff, k_whl, k_for, k_brk, k_cont, lo_nil, lo_cons, li_some, as_nm, as_tup, as_0, as_s, f_rt, f_own, f_nx, R.bind_ok, R.of_some, Option.bind_some, Option.map_some, List.length_cons, List.length_nil, List.set_cons_zero, List.set_cons_succ, List.map_cons, List.map_nil, List.replicate, List.cons_append, List.nil_append, if_true, if_false, Bool.false_eq_true]
  show (mtV .append (.ref S.length) [x] (S ++ [.lst acc])).bind _ = _
  have m : mtV .append (.ref S.length) [x] (S ++ [.lst acc]) = .ok (.d .non) (S ++ [.lst (acc ++ [x])]) := by
    show (match (S ++ [Cell.lst acc])[S.length]? with
      | some (.lst xs) => if xs.length < PySem.sizeLine then (R.ok (Val.d .non) ((S ++ [Cell.lst acc]).set S.length (.lst (xs ++ [x]))) : R Val) else .no
      | _ => .no) = _
    rw [last_get]
    simp only [z, if_true, last_set]
  rw [m]
  rfl
def cutT : Ex := .cmp .Lt (.var 2) (.bi .len [(.var 0)])
def cutB : List Sx := [.iff (.cmp .In (.ix (.var 0) (.var 2)) (.kS " \n")) [.aug 2 .Add (.kI 1), .cont] [], .asgS [(.nm 3), (.nm 4), (.nm 5)] (.call 3 [(.var 0), (.var 2)]), .ex (.mt .append (.var 1) [(.tup [(.var 3), (.var 4), (.var 2)])]), .asg 2 (.var 5)]
theorem cut_loop (k : Nat) (S : Store) {cs : List Nat} (hl : cs.length ≤ 4000) : ∀ (n m i : Nat) (acc : List D) (a b c : Option Val), cs.length - i ≤ n → n < m → acc.length ≤ i →
    match lex cs n i acc with
    | .inl p => ∃ x, whileN (sem (C (k + 2)) gs cutT).ts (semB (C (k + 2)) gs 100000 cutB) m [some (.d (.str (tx cs))), some (.ref S.length), some (I (i : Nat)), a, b, c] (S ++ [.lst acc]) = .ex 1 (.int ((p : Nat) : Int)) (S ++ [x])
    | .inr ts => ∃ w x y z, whileN (sem (C (k + 2)) gs cutT).ts (semB (C (k + 2)) gs 100000 cutB) m [some (.d (.str (tx cs))), some (.ref S.length), some (I (i : Nat)), a, b, c] (S ++ [.lst acc]) = .ok (.nx, [some (.d (.str (tx cs))), some (.ref S.length), w, x, y, z]) (S ++ [.lst ts])
  | n, m + 1, i, acc, a, b, c, h1, h2, h3 => by
    have t0 : ∀ S', (sem (C (k + 2)) gs cutT).ts [some (.d (.str (tx cs))), some (.ref S.length), some (I (i : Nat)), a, b, c] S' = .ok (decide (i < cs.length)) S' := fun S' => by
      unfold cutT
      by_cases hi : i < cs.length
      · have : (i : Int) < (cs.length : Int) := by omega
        simp [e_kN, e_kB, e_kI, e_kS, e_var, e_glb, e_fnv, e_typ, e_neg, e_bin, e_cmp, e_chn, e_and, e_or, e_not, e_ife, e_tup, e_lst, e_ix, e_slc, e_call, e_bi, e_mt, e_lc, e_dc, e_isE, e_isV, e_attr, e_dyn, e_pm, ra_0, t_isV, t_isE, t_dyn, i_lst, i_tup, i_slc, i_ix, i_bin, k_raise, k_asgP, k_asgX, sp_nil, sp_cons, sx_nil, sx_cons, f_ex, R.bind_ex, t_and, t_or, t_not, t_var, t_cmp, t_chn, t_call, t_bi, t_ix, i_var, i_call, i_bi, i_rng, i_zip, ss_nil, ss_cons, so_none, so_some, ea_nil, ea_cons, an_1, an_2, or_1, or_2, tan_1, tan_2, tor_1, tor_2, tal_0, tal_1, ep_0, ep_1, st_, st2_, tu_nil, tu_c, w_0, w_s, ca_ok, at1, at2_0, at2_1, at4_0, at4_1, at4_2, at4_3, bo_nil, bo_c, io_nil, io_c, is_int, is_intb, is_tup, g_0, g_s, p_d, p_own, p_ref, d_d, d_own, a_d, a_own, a_ref, c_lst, c_dct, pk_nil, pk_cons, sa_nil, sa_cons, ao_nil, ao_cons, b_add, b_sub, b_mul, b_div, b_mod, b_pow, b_cat, n_int, n_bl, cv, c_eq, c_ne, c_lt, c_le, c_gt, c_ge, c_in, c_notIn, eq_int, x_lst, x_tup, x_dct, tr_bl, tr_int, bi_len, bi_lent, bi_abs, bi_int, bi_all, bi_list, bi_listk, bi_listt, bi_tuple, bi_tuplet, io_lst, io_klst, io_tup, k_nil, k_cons, k_asg, k_asgS, k_asgN, k_setix, k_ex, k_ret, k_retN, k_iff, k_whl, k_for, k_brk, k_cont, lo_nil, lo_cons, li_some, as_nm, as_tup, as_0, as_s, f_rt, f_own, f_nx, R.bind_ok, R.of_some, Option.bind_some, Option.map_some, List.length_cons, List.length_nil, List.set_cons_zero, List.set_cons_succ, List.map_cons, List.map_nil, List.replicate, List.cons_append, List.nil_append, if_true, if_false, Bool.false_eq_true, len_t hl, hi]
      · have : ¬ (i : Int) < (cs.length : Int) := by omega
        simp [e_kN, e_kB, e_kI, e_kS, e_var, e_glb, e_fnv, e_typ, e_neg, e_bin, e_cmp, e_chn, e_and, e_or, e_not, e_ife, e_tup, e_lst, e_ix, e_slc, e_call, e_bi, e_mt, e_lc, e_dc, e_isE, e_isV, e_attr, e_dyn, e_pm, ra_0, t_isV, t_isE, t_dyn, i_lst, i_tup, i_slc, i_ix, i_bin, k_raise, k_asgP, k_asgX, sp_nil, sp_cons, sx_nil, sx_cons, f_ex, R.bind_ex, t_and, t_or, t_not, t_var, t_cmp, t_chn, t_call, t_bi, t_ix, i_var, i_call, i_bi, i_rng, i_zip, ss_nil, ss_cons, so_none, so_some, ea_nil, ea_cons, an_1, an_2, or_1, or_2, tan_1, tan_2, tor_1, tor_2, tal_0, tal_1, ep_0, ep_1, st_, st2_, tu_nil, tu_c, w_0, w_s, ca_ok, at1, at2_0, at2_1, at4_0, at4_1, at4_2, at4_3, bo_nil, bo_c, io_nil, io_c, is_int, is_intb, is_tup, g_0, g_s, p_d, p_own, p_ref, d_d, d_own, a_d, a_own, a_ref, c_lst, c_dct, pk_nil, pk_cons, sa_nil, sa_cons, ao_nil, ao_cons, b_add, b_sub, b_mul, b_div, b_mod, b_pow, b_cat, n_int, n_bl, cv, c_eq, c_ne, c_lt, c_le, c_gt, c_ge, c_in, c_notIn, eq_int, x_lst, x_tup, x_dct, tr_bl, tr_int, bi_len, bi_lent, bi_abs, bi_int, bi_all, bi_list, bi_listk, bi_listt, bi_tuple, bi_tuplet, io_lst, io_klst, io_tup, k_nil, k_cons, k_asg, k_asgS, k_asgN, k_setix, k_ex, k_ret, k_retN, k_iff, k_whl, k_for, k_brk, k_cont, lo_nil, lo_cons, li_some, as_nm, as_tup, as_0, as_s, f_rt, f_own, f_nx, R.bind_ok, R.of_some, Option.bind_some, Option.map_some, List.length_cons, List.length_nil, List.set_cons_zero, List.set_cons_succ, List.map_cons, List.map_nil, List.replicate, List.cons_append, List.nil_append, if_true, if_false, Bool.false_eq_true, len_t hl, hi]
    have stop : cs.length ≤ i → ∃ w x y z, whileN (sem (C (k + 2)) gs cutT).ts (semB (C (k + 2)) gs 100000 cutB) (m + 1) [some (.d (.str (tx cs))), some (.ref S.length), some (I (i : Nat)), a, b, c] (S ++ [.lst acc]) = .ok (.nx, [some (.d (.str (tx cs))), some (.ref S.length), w, x, y, z]) (S ++ [.lst acc]) := fun hi => by
      refine ⟨some (I (i : Nat)), a, b, c, ?_⟩
      rw [wh_s, t0, decide_eq_false (by omega)]
      rfl
    cases n with
    | zero => exact stop (by omega)
    | succ n =>
      unfold lex
      cases e : cs[i]? with
      | none => exact stop (List.getElem?_eq_none_iff.mp e)
      | some c0 =>
        have hi := (List.getElem?_eq_some_iff.mp e).1
        rw [wh_s, t0, decide_eq_true hi]
        simp only [R.bind_ok, if_true]
        cases hW : isW c0 with
        | true =>
          have b0 : semB (C (k + 2)) gs 100000 cutB [some (.d (.str (tx cs))), some (.ref S.length), some (I (i : Nat)), a, b, c] (S ++ [.lst acc]) = .ok (.ct, [some (.d (.str (tx cs))), some (.ref S.length), some (I ((i + 1 : Nat) : Int)), a, b, c]) (S ++ [.lst acc]) := by
            have au : ∀ S', semS (C (k + 2)) gs 100000 (.aug 2 .Add (.kI 1)) [some (.d (.str (tx cs))), some (.ref S.length), some (I (i : Nat)), a, b, c] S' = .ok (.nx, [some (.d (.str (tx cs))), some (.ref S.length), some (I ((i + 1 : Nat) : Int)), a, b, c]) S' := fun S' =>
              k_aug1 (a := (i : Nat)) (b := 1) (c := ((i + 1 : Nat) : Int)) (S1 := S') _ _ _ _ _ _ _ _ rfl rfl (by unfold augI; simp)
            unfold cutB
            simp [e_kN, e_kB, e_kI, e_kS, e_var, e_glb, e_fnv, e_typ, e_neg, e_bin, e_cmp, e_chn, e_and, e_or, e_not, e_ife, e_tup, e_lst, e_ix, e_slc, e_call, e_bi, e_mt, e_lc, e_dc, e_isE, e_isV, e_attr, e_dyn, e_pm, ra_0, t_isV, t_isE, t_dyn, i_lst, i_tup, i_slc, i_ix, i_bin, k_raise, k_asgP, k_asgX, sp_nil, sp_cons, sx_nil, sx_cons, f_ex, R.bind_ex, t_and, t_or, t_not, t_var, t_cmp, t_chn, t_call, t_bi, t_ix, i_var, i_call, i_bi, i_rng, i_zip, ss_nil, ss_cons, so_none, so_some, ea_nil, ea_cons, an_1, an_2, or_1, or_2, tan_1, tan_2, tor_1, tor_2, tal_0, tal_1, ep_0, ep_1, st_, st2_, tu_nil, tu_c, w_0, w_s, ca_ok, at1, at2_0, at2_1, at4_0, at4_1, at4_2, at4_3, bo_nil, bo_c, io_nil, io_c, is_int, is_intb, is_tup, g_0, g_s, p_d, p_own, p_ref, d_d, d_own, a_d, a_own, a_ref, c_lst, c_dct, pk_nil, pk_cons, sa_nil, sa_cons, ao_nil, ao_cons, b_add, b_sub, b_mul, b_div, b_mod, b_pow, b_cat, n_int, n_bl, cv, c_eq, c_ne, c_lt, c_le, c_gt, c_ge, c_in, c_notIn, eq_int, x_lst, x_tup, x_dct, tr_bl, tr_int, bi_len, bi_lent, bi_abs, bi_int, bi_all, bi_list, bi_listk, bi_listt, bi_tuple, bi_tuplet, io_lst, io_klst, io_tup, k_nil, k_cons, k_asg, k_asgS, k_asgN, k_setix, k_ex, k_ret, k_retN, k_iff, k_whl, k_for, k_brk, k_cont, lo_nil, lo_cons, li_some, as_nm, as_tup, as_0, as_s, f_rt, f_own, f_nx, R.bind_ok, R.of_some, Option.bind_some, Option.map_some, List.length_cons, List.length_nil, List.set_cons_zero, List.set_cons_succ, List.map_cons, List.map_nil, List.replicate, List.cons_append, List.nil_append, if_true, if_false, Bool.false_eq_true, ix_t hl e, in_W, hW, au]
          rw [b0]
          simp only [R.bind_ok, if_true]
          exact cut_loop k S hl n m (i + 1) acc a b c (by omega) (by omega) (by omega)
        | false =>
          simp only [Bool.false_eq_true, if_false]
          have tr := tok_run k (S ++ [.lst acc]) hl e
          cases q : tokAt cs i c0 with
          | inl p =>
            rw [q] at tr
            refine ⟨.lst acc, ?_⟩
            have b0 : semB (C (k + 2)) gs 100000 cutB [some (.d (.str (tx cs))), some (.ref S.length), some (I (i : Nat)), a, b, c] (S ++ [.lst acc]) = .ex 1 (.int ((p : Nat) : Int)) (S ++ [.lst acc]) := by
              unfold cutB
              simp [e_kN, e_kB, e_kI, e_kS, e_var, e_glb, e_fnv, e_typ, e_neg, e_bin, e_cmp, e_chn, e_and, e_or, e_not, e_ife, e_tup, e_lst, e_ix, e_slc, e_call, e_bi, e_mt, e_lc, e_dc, e_isE, e_isV, e_attr, e_dyn, e_pm, ra_0, t_isV, t_isE, t_dyn, i_lst, i_tup, i_slc, i_ix, i_bin, k_raise, k_asgP, k_asgX, sp_nil, sp_cons, sx_nil, sx_cons, f_ex, R.bind_ex, t_and, t_or, t_not, t_var, t_cmp, t_chn, t_call, t_bi, t_ix, i_var, i_call, i_bi, i_rng, i_zip, ss_nil, ss_cons, so_none, so_some, ea_nil, ea_cons, an_1, an_2, or_1, or_2, tan_1, tan_2, tor_1, tor_2, tal_0, tal_1, ep_0, ep_1, st_, st2_, tu_nil, tu_c, w_0, w_s, ca_ok, at1, at2_0, at2_1, at4_0, at4_1, at4_2, at4_3, bo_nil, bo_c, io_nil, io_c, is_int, is_intb, is_tup, g_0, g_s, p_d, p_own, p_ref, d_d, d_own, a_d, a_own, a_ref, c_lst, c_dct, pk_nil, pk_cons, sa_nil, sa_cons, ao_nil, ao_cons, b_add, b_sub, b_mul, b_div, b_mod, b_pow, b_cat, n_int, n_bl, cv, c_eq, c_ne, c_lt, c_le, c_gt, c_ge, c_in, c_notIn, eq_int, x_lst, x_tup, x_dct, tr_bl, tr_int, bi_len, bi_lent, bi_abs, bi_int, bi_all, bi_list, bi_listk, bi_listt, bi_tuple, bi_tuplet, io_lst, io_klst, io_tup, k_nil, k_cons, k_asg, k_asgS, k_asgN, k_setix, k_ex, k_ret, k_retN, k_iff, k_whl, k_for, k_brk, k_cont, lo_nil, lo_cons, li_some, as_nm, as_tup, as_0, as_s, f_rt, f_own, f_nx, R.bind_ok, R.of_some, Option.bind_some, Option.map_some, List.length_cons, List.length_nil, List.set_cons_zero, List.set_cons_succ, List.map_cons, List.map_nil, List.replicate, List.cons_append, List.nil_append, if_true, if_false, Bool.false_eq_true, ix_t hl e, in_W, hW, tr]
            rw [b0]
            rfl
          | inr y =>
            obtain ⟨kd, v, j⟩ := y
            rw [q] at tr
            have gt := tok_gt e q
            have b0 : semB (C (k + 2)) gs 100000 cutB [some (.d (.str (tx cs))), some (.ref S.length), some (I (i : Nat)), a, b, c] (S ++ [.lst acc]) = .ok (.nx, [some (.d (.str (tx cs))), some (.ref S.length), some (I (j : Nat)), some (.d kd), some (.d v), some (I (j : Nat))]) (S ++ [.lst (acc ++ [.tup [kd, v, .int ((i : Nat) : Int)]])]) := by
              have ap := app_run (Fs := C (k + 2)) (E := [some (.d (.str (tx cs))), some (.ref S.length), some (I (i : Nat)), some (.d kd), some (.d v), some (I (j : Nat))]) (S := S) (acc := acc) (i := 1) (es := .tup [(.var 3), (.var 4), (.var 2)]) (x := .tup [kd, v, .int ((i : Nat) : Int)]) rfl (by simp [e_kN, e_kB, e_kI, e_kS, e_var, e_glb, e_fnv, e_typ, e_neg, e_bin, e_cmp, e_chn, e_and, e_or, e_not, e_ife, e_tup, e_lst, e_ix, e_slc, e_call, e_bi, e_mt, e_lc, e_dc, e_isE, e_isV, e_attr, e_dyn, e_pm, ra_0, t_isV, t_isE, t_dyn, i_lst, i_tup, i_slc, i_ix, i_bin, k_raise, k_asgP, k_asgX, sp_nil, sp_cons, sx_nil, sx_cons, f_ex, R.bind_ex, t_and, t_or, t_not, t_var, t_cmp, t_chn, t_call, t_bi, t_ix, i_var, i_call, i_bi, i_rng, i_zip, ss_nil, ss_cons, so_none, so_some, ea_nil, ea_cons, an_1, an_2, or_1, or_2, tan_1, tan_2, tor_1, tor_2, tal_0, tal_1, ep_0, ep_1, st_, st2_, tu_nil, tu_c, w_0, w_s, ca_ok, at1, at2_0, at2_1, at4_0, at4_1, at4_2, at4_3, bo_nil, bo_c, io_nil, io_c, is_int, is_intb, is_tup, g_0, g_s, p_d, p_own, p_ref, d_d, d_own, a_d, a_own, a_ref, c_lst, c_dct, pk_nil, pk_cons, sa_nil, sa_cons, ao_nil, ao_cons, b_add, b_sub, b_mul, b_div, b_mod, b_pow, b_cat, n_int, n_bl, cv, c_eq, c_ne, c_lt, c_le, c_gt, c_ge, c_in, c_notIn, eq_int, x_lst, x_tup, x_dct, tr_bl, tr_int, bi_len, bi_lent, bi_abs, bi_int, bi_all, bi_list, bi_listk, bi_listt, bi_tuple, bi_tuplet, io_lst, io_klst, io_tup, k_nil, k_cons, k_asg, k_asgS, k_asgN, k_setix, k_ex, k_ret, k_retN, k_iff, k_whl, k_for, k_brk, k_cont, lo_nil, lo_cons, li_some, as_nm, as_tup, as_0, as_s, f_rt, f_own, f_nx, R.bind_ok, R.of_some, Option.bind_some, Option.map_some, List.length_cons, List.length_nil, List.set_cons_zero, List.set_cons_succ, List.map_cons, List.map_nil, List.replicate, List.cons_append, List.nil_append, if_true, if_false, Bool.false_eq_true, PySem.sizeLine]) (by omega)
              unfold cutB
              simp [e_kN, e_kB, e_kI, e_kS, e_var, e_glb, e_fnv, e_typ, e_neg, e_bin, e_cmp, e_chn, e_and, e_or, e_not, e_ife, e_tup, e_lst, e_ix, e_slc, e_call, e_bi, e_mt, e_lc, e_dc, e_isE, e_isV, e_attr, e_dyn, e_pm, ra_0, t_isV, t_isE, t_dyn, i_lst, i_tup, i_slc, i_ix, i_bin, k_raise, k_asgP, k_asgX, sp_nil, sp_cons, sx_nil, sx_cons, f_ex, R.bind_ex, t_and, t_or, t_not, t_var, t_cmp, t_chn, t_call, t_bi, t_ix, i_var, i_call, i_bi, i_rng, i_zip, ss_nil, ss_cons, so_none, so_some, ea_nil, ea_cons, an_1, an_2, or_1, or_2, tan_1, tan_2, tor_1, tor_2, tal_0, tal_1, ep_0, ep_1, st_, st2_, tu_nil, tu_c, w_0, w_s, ca_ok, at1, at2_0, at2_1, at4_0, at4_1, at4_2, at4_3, bo_nil, bo_c, io_nil, io_c, is_int, is_intb, is_tup, g_0, g_s, p_d, p_own, p_ref, d_d, d_own, a_d, a_own, a_ref, c_lst, c_dct, pk_nil, pk_cons, sa_nil, sa_cons, ao_nil, ao_cons, b_add, b_sub, b_mul, b_div, b_mod, b_pow, b_cat, n_int, n_bl, cv, c_eq, c_ne, c_lt, c_le, c_gt, c_ge, c_in, c_notIn, eq_int, x_lst, x_tup, x_dct, tr_bl, tr_int, bi_len, bi_lent, bi_abs, bi_int, bi_all, bi_list, bi_listk, bi_listt, bi_tuple, bi_tuplet, io_lst, io_klst, io_tup, k_nil, k_cons, k_asg, k_asgS, k_asgN, k_setix, k_ex, k_ret, k_retN, k_iff, k_whl, k_for, k_brk, k_cont, lo_nil, lo_cons, li_some, as_nm, as_tup, as_0, as_s, f_rt, f_own, f_nx, R.bind_ok, R.of_some, Option.bind_some, Option.map_some, List.length_cons, List.length_nil, List.set_cons_zero, List.set_cons_succ, List.map_cons, List.map_nil, List.replicate, List.cons_append, List.nil_append, if_true, if_false, Bool.false_eq_true, -k_ex, -e_mt, ix_t hl e, in_W, hW, tr, ap]
            rw [b0]
            simp only [R.bind_ok]
            exact cut_loop k S hl n m j (acc ++ [.tup [kd, v, .int ((i : Nat) : Int)]]) _ _ _ (by omega) (by omega) (by simp; omega)
/-- the program's lexer -/
theorem cut_run (k : Nat) (S : Store) {cs : List Nat} (hl : cs.length ≤ 4000) : C (k + 3) 2 [.d (.str (tx cs))] S = match lex cs cs.length 0 [] with
    | .inl p => .ex 1 (.int ((p : Nat) : Int)) S
    | .inr ts => .ok (.own (.lst ts)) S := by
  rw [call_d (fd := ⟨1, 6, b2, false⟩) rfl, r_run _ _ _ _ _ _ rfl]
  have e := cut_loop k S hl cs.length 100000 0 [] none none none (by omega) (by omega) (by simp)
  have e0 : b2 = [.asgP 1 (.lst []) 2 (.kI 0), .whl cutT cutB, .ret (.var 1)] := rfl
  show fin S.length (semB (C (k + 2)) gs 100000 b2 [some (.d (.str (tx cs))), none, none, none, none, none] S) = _
  have p0 : semS (C (k + 2)) gs 100000 (.asgP 1 (.lst []) 2 (.kI 0)) [some (.d (.str (tx cs))), none, none, none, none, none] S = .ok (.nx, [some (.d (.str (tx cs))), some (.ref S.length), some (I 0), none, none, none]) (S ++ [.lst []]) := by
    rw [k_asgP]
    simp [e_kN, e_kB, e_kI, e_kS, e_var, e_glb, e_fnv, e_typ, e_neg, e_bin, e_cmp, e_chn, e_and, e_or, e_not, e_ife, e_tup, e_lst, e_ix, e_slc, e_call, e_bi, e_mt, e_lc, e_dc, e_isE, e_isV, e_attr, e_dyn, e_pm, ra_0, t_isV, t_isE, t_dyn, i_lst, i_tup, i_slc, i_ix, i_bin, k_raise, k_asgP, k_asgX, sp_nil, sp_cons, sx_nil, sx_cons, f_ex, R.bind_ex, t_and, t_or, t_not, t_var, t_cmp, t_chn, t_call, t_bi, t_ix, i_var, i_call, i_bi, i_rng, i_zip, ss_nil, ss_cons, so_none, so_some, ea_nil, ea_cons, an_1, an_2, or_1, or_2, tan_1, tan_2, tor_1, tor_2, tal_0, tal_1, ep_0, ep_1, st_, st2_, tu_nil, tu_c, w_0, w_s, ca_ok, at1, at2_0, at2_1, at4_0, at4_1, at4_2, at4_3, bo_nil, bo_c, io_nil, io_c, is_int, is_intb, is_tup, g_0, g_s, p_d, p_own, p_ref, d_d, d_own, a_d, a_own, a_ref, c_lst, c_dct, pk_nil, pk_cons, sa_nil, sa_cons, ao_nil, ao_cons, b_add, b_sub, b_mul, b_div, b_mod, b_pow, b_cat, n_int, n_bl, cv, c_eq, c_ne, c_lt, c_le, c_gt, c_ge, c_in, c_notIn, eq_int, x_lst, x_tup, x_dct, tr_bl, tr_int, bi_len, bi_lent, bi_abs, bi_int, bi_all, bi_list, bi_listk, bi_listt, bi_tuple, bi_tuplet, io_lst, io_klst, io_tup, k_nil, k_cons, k_asg, k_asgS, k_asgN, k_setix, k_ex, k_ret, k_retN, k_iff, k_whl, k_for, k_brk, k_cont, lo_nil, lo_cons, li_some, as_nm, as_tup, as_0, as_s, f_rt, f_own, f_nx, R.bind_ok, R.of_some, Option.bind_some, Option.map_some, List.length_cons, List.length_nil, List.set_cons_zero, List.set_cons_succ, List.map_cons, List.map_nil, List.replicate, List.cons_append, List.nil_append, if_true, if_false, Bool.false_eq_true, PySem.sizeLine]
  rw [e0, k_cons, p0]
  simp only [R.bind_ok]
  cases q : lex cs cs.length 0 [] with
  | inl p =>
    rw [q] at e
    obtain ⟨x, e⟩ := e
    have e' : semS (C (k + 2)) gs 100000 (.whl cutT cutB) [some (.d (.str (tx cs))), some (.ref S.length), some (I 0), none, none, none] (S ++ [.lst []]) = .ex 1 (.int ((p : Nat) : Int)) (S ++ [x]) := e
    rw [k_cons, e']
    show R.ex 1 _ ((S ++ [x]).take S.length) = _
    rw [List.take_left]
  | inr ts =>
    rw [q] at e
    obtain ⟨w, x, y, z, e⟩ := e
    have e' : semS (C (k + 2)) gs 100000 (.whl cutT cutB) [some (.d (.str (tx cs))), some (.ref S.length), some (I 0), none, none, none] (S ++ [.lst []]) = .ok (.nx, [some (.d (.str (tx cs))), some (.ref S.length), w, x, y, z]) (S ++ [.lst ts]) := e
    rw [k_cons, e']
    simp only [R.bind_ok]
    show fin S.length (.ok (.rt (.ref S.length), _) (S ++ [.lst ts])) = _
    unfold fin
    simp only []
    rw [if_neg (Nat.lt_irrefl _), last_get]
    simp only []
    rw [List.take_left]
end K50

set_option maxHeartbeats 2000000
namespace K50
open Mi
open PySem (Str)
/-! ### the law's lexer -/
def wLt : Ex := .cmp .Lt (.var 4) (.bi .len [(.var 0)])
def tW : Ex := .andE [wLt, (.chn .LtE .LtE (.kS "a") (.ix (.var 0) (.var 4)) (.kS "z"))]
def tN : Ex := .andE [wLt, (.cmp .In (.ix (.var 0) (.var 4)) (.kS "0123456789"))]
def stepE : List Sx := [.asg 4 (.bin .Add (.var 4) (.kI 1))]
def apW : Sx := .ex (.mt .append (.var 1) [(.tup [(.kS "word"), (.slc (.var 0) (some (.var 2)) (some (.var 4))), (.var 2)])])
def apN : Sx := .ex (.mt .append (.var 1) [(.tup [(.kS "int"), (.bi .int [(.slc (.var 0) (some (.var 2)) (some (.var 4)))]), (.var 2)])])
def apS : Sx := .ex (.mt .append (.var 1) [(.tup [(.kS "sign"), (.var 3), (.var 2)])])
def brW : List Sx := [.whl tW stepE, .iff (.cmp .Gt (.bin .Sub (.var 4) (.var 2)) (.kI 10)) [.ret (.bin .Add (.var 2) (.kI 10))] [], apW]
def brN : List Sx := [.whl tN stepE, .iff (.andE [(.cmp .Eq (.var 3) (.kS "0")), (.cmp .Gt (.bin .Sub (.var 4) (.var 2)) (.kI 1))]) [.ret (.bin .Add (.var 2) (.kI 1))] [], .iff (.cmp .Gt (.bin .Sub (.var 4) (.var 2)) (.kI 12)) [.ret (.bin .Add (.var 2) (.kI 12))] [], apN]
def brS : List Sx := [.iff (.cmp .In (.var 3) (.kS ";,()/-#.")) [apS] [.ret (.var 2)]]
def lB : List Sx := [.asgS [(.nm 3), (.nm 4)] (.tup [(.ix (.var 0) (.var 2)), (.bin .Add (.var 2) (.kI 1))]), .iff (.cmp .In (.var 3) (.kS " \n")) [.asg 2 (.bin .Add (.var 2) (.kI 1)), .cont] [], .iff (.chn .LtE .LtE (.kS "a") (.var 3) (.kS "z")) brW [.iff (.cmp .In (.var 3) (.kS "0123456789")) brN brS], .asg 2 (.var 4)]
theorem b12_eq : b12 = [.asgP 1 (.lst []) 2 (.kI 0), .whl cutT lB, .ret (.var 1)] := rfl
theorem lend_loop (Fs : Fns) (S : Store) {p : Nat → Bool} {t : Ex} {cs : List Nat} {x0 x1 x2 x3 : Option Val} (ht : ∀ j : Nat, (sem Fs gs t).ts [x0, x1, x2, x3, some (I (j : Nat))] S = .ok (match cs[j]? with
      | some c => p c
      | none => false) S) : ∀ (n m j : Nat), cs.length - j ≤ n → n < m → whileN (sem Fs gs t).ts (semB Fs gs 100000 stepE) m [x0, x1, x2, x3, some (I (j : Nat))] S = .ok (.nx, [x0, x1, x2, x3, some (I ((j + run p (cs.drop j) : Nat) : Int))]) S
  | n, m + 1, j, h1, h2 => by
    rw [wh_s, ht]
    cases e : cs[j]? with
    | none => rw [run_end (List.getElem?_eq_none_iff.mp e)]; rfl
    | some c =>
      cases q : p c with
      | false =>
        rw [run_not e q]
        simp only [q, R.bind_ok, Bool.false_eq_true, if_false]
        rfl
      | true =>
        have hi := (List.getElem?_eq_some_iff.mp e).1
        simp only [q, R.bind_ok, if_true]
        have b0 : semB Fs gs 100000 stepE [x0, x1, x2, x3, some (I (j : Nat))] S = .ok (.nx, [x0, x1, x2, x3, some (I ((j + 1 : Nat) : Int))]) S := by
          unfold stepE
          simp [e_kN, e_kB, e_kI, e_kS, e_var, e_glb, e_fnv, e_typ, e_neg, e_bin, e_cmp, e_chn, e_and, e_or, e_not, e_ife, e_tup, e_lst, e_ix, e_slc, e_call, e_bi, e_mt, e_lc, e_dc, e_isE, e_isV, e_attr, e_dyn, e_pm, ra_0, t_isV, t_isE, t_dyn, i_lst, i_tup, i_slc, i_ix, i_bin, k_raise, k_asgP, k_asgX, sp_nil, sp_cons, sx_nil, sx_cons, f_ex, R.bind_ex, t_and, t_or, t_not, t_var, t_cmp, t_chn, t_call, t_bi, t_ix, i_var, i_call, i_bi, i_rng, i_zip, ss_nil, ss_cons, so_none, so_some, ea_nil, ea_cons, an_1, an_2, or_1, or_2, tan_1, tan_2, tor_1, tor_2, tal_0, tal_1, ep_0, ep_1, st_, st2_, tu_nil, tu_c, w_0, w_s, ca_ok, at1, at2_0, at2_1, at4_0, at4_1, at4_2, at4_3, bo_nil, bo_c, io_nil, io_c, is_int, is_intb, is_tup, g_0, g_s, p_d, p_own, p_ref, d_d, d_own, a_d, a_own, a_ref, c_lst, c_dct, pk_nil, pk_cons, sa_nil, sa_cons, ao_nil, ao_cons, b_add, b_sub, b_mul, b_div, b_mod, b_pow, b_cat, n_int, n_bl, cv, c_eq, c_ne, c_lt, c_le, c_gt, c_ge, c_in, c_notIn, eq_int, x_lst, x_tup, x_dct, tr_bl, tr_int, bi_len, bi_lent, bi_abs, bi_int, bi_all, bi_list, bi_listk, bi_listt, bi_tuple, bi_tuplet, io_lst, io_klst, io_tup, k_nil, k_cons, k_asg, k_asgS, k_asgN, k_setix, k_ex, k_ret, k_retN, k_iff, k_whl, k_for, k_brk, k_cont, lo_nil, lo_cons, li_some, as_nm, as_tup, as_0, as_s, f_rt, f_own, f_nx, R.bind_ok, R.of_some, Option.bind_some, Option.map_some, List.length_cons, List.length_nil, List.set_cons_zero, List.set_cons_succ, List.map_cons, List.map_nil, List.replicate, List.cons_append, List.nil_append, if_true, if_false, Bool.false_eq_true]
        rw [b0]
        simp only [R.bind_ok]
        obtain ⟨n', rfl⟩ : ∃ n', n = n' + 1 := ⟨n - 1, by omega⟩
        have ih := lend_loop Fs S ht n' m (j + 1) (by omega) (by omega)
        rw [run_yes e q, show j + (1 + run p (cs.drop (j + 1))) = j + 1 + run p (cs.drop (j + 1)) by omega]
        exact ih
theorem tW_ts {Fs : Fns} {S : Store} {cs : List Nat} (hl : cs.length ≤ 4000) (hk : ∀ c ∈ cs, c < 1114112) {x1 x2 x3 : Option Val} (j : Nat) : (sem Fs gs tW).ts [some (.d (.str (tx cs))), x1, x2, x3, some (I (j : Nat))] S = .ok (match cs[j]? with
      | some c => isL c
      | none => false) S := by
  unfold tW wLt
  cases e : cs[j]? with
  | none =>
    have hi : ¬ ((j : Int) < (cs.length : Int)) := by have := List.getElem?_eq_none_iff.mp e; omega
    simp [e_kN, e_kB, e_kI, e_kS, e_var, e_glb, e_fnv, e_typ, e_neg, e_bin, e_cmp, e_chn, e_and, e_or, e_not, e_ife, e_tup, e_lst, e_ix, e_slc, e_call, e_bi, e_mt, e_lc, e_dc, e_isE, e_isV, e_attr, e_dyn, e_pm, ra_0, t_isV, t_isE, t_dyn, i_lst, i_tup, i_slc, i_ix, i_bin, k_raise, k_asgP, k_asgX, sp_nil, sp_cons, sx_nil, sx_cons, f_ex, R.bind_ex, t_and, t_or, t_not, t_var, t_cmp, t_chn, t_call, t_bi, t_ix, i_var, i_call, i_bi, i_rng, i_zip, ss_nil, ss_cons, so_none, so_some, ea_nil, ea_cons, an_1, an_2, or_1, or_2, tan_1, tan_2, tor_1, tor_2, tal_0, tal_1, ep_0, ep_1, st_, st2_, tu_nil, tu_c, w_0, w_s, ca_ok, at1, at2_0, at2_1, at4_0, at4_1, at4_2, at4_3, bo_nil, bo_c, io_nil, io_c, is_int, is_intb, is_tup, g_0, g_s, p_d, p_own, p_ref, d_d, d_own, a_d, a_own, a_ref, c_lst, c_dct, pk_nil, pk_cons, sa_nil, sa_cons, ao_nil, ao_cons, b_add, b_sub, b_mul, b_div, b_mod, b_pow, b_cat, n_int, n_bl, cv, c_eq, c_ne, c_lt, c_le, c_gt, c_ge, c_in, c_notIn, eq_int, x_lst, x_tup, x_dct, tr_bl, tr_int, bi_len, bi_lent, bi_abs, bi_int, bi_all, bi_list, bi_listk, bi_listt, bi_tuple, bi_tuplet, io_lst, io_klst, io_tup, k_nil, k_cons, k_asg, k_asgS, k_asgN, k_setix, k_ex, k_ret, k_retN, k_iff, k_whl, k_for, k_brk, k_cont, lo_nil, lo_cons, li_some, as_nm, as_tup, as_0, as_s, f_rt, f_own, f_nx, R.bind_ok, R.of_some, Option.bind_some, Option.map_some, List.length_cons, List.length_nil, List.set_cons_zero, List.set_cons_succ, List.map_cons, List.map_nil, List.replicate, List.cons_append, List.nil_append, if_true, if_false, Bool.false_eq_true, len_t hl, hi]
  | some c =>
    have hi : (j : Int) < (cs.length : Int) := by have := (List.getElem?_eq_some_iff.mp e).1; omega
    have a := az_test (Fs := Fs) (Gs := gs) (E := [some (.d (.str (tx cs))), x1, x2, x3, some (I (j : Nat))]) (S := S) (x := .ix (.var 0) (.var 4)) (hk c (List.mem_of_getElem? e)) (by simp [e_kN, e_kB, e_kI, e_kS, e_var, e_glb, e_fnv, e_typ, e_neg, e_bin, e_cmp, e_chn, e_and, e_or, e_not, e_ife, e_tup, e_lst, e_ix, e_slc, e_call, e_bi, e_mt, e_lc, e_dc, e_isE, e_isV, e_attr, e_dyn, e_pm, ra_0, t_isV, t_isE, t_dyn, i_lst, i_tup, i_slc, i_ix, i_bin, k_raise, k_asgP, k_asgX, sp_nil, sp_cons, sx_nil, sx_cons, f_ex, R.bind_ex, t_and, t_or, t_not, t_var, t_cmp, t_chn, t_call, t_bi, t_ix, i_var, i_call, i_bi, i_rng, i_zip, ss_nil, ss_cons, so_none, so_some, ea_nil, ea_cons, an_1, an_2, or_1, or_2, tan_1, tan_2, tor_1, tor_2, tal_0, tal_1, ep_0, ep_1, st_, st2_, tu_nil, tu_c, w_0, w_s, ca_ok, at1, at2_0, at2_1, at4_0, at4_1, at4_2, at4_3, bo_nil, bo_c, io_nil, io_c, is_int, is_intb, is_tup, g_0, g_s, p_d, p_own, p_ref, d_d, d_own, a_d, a_own, a_ref, c_lst, c_dct, pk_nil, pk_cons, sa_nil, sa_cons, ao_nil, ao_cons, b_add, b_sub, b_mul, b_div, b_mod, b_pow, b_cat, n_int, n_bl, cv, c_eq, c_ne, c_lt, c_le, c_gt, c_ge, c_in, c_notIn, eq_int, x_lst, x_tup, x_dct, tr_bl, tr_int, bi_len, bi_lent, bi_abs, bi_int, bi_all, bi_list, bi_listk, bi_listt, bi_tuple, bi_tuplet, io_lst, io_klst, io_tup, k_nil, k_cons, k_asg, k_asgS, k_asgN, k_setix, k_ex, k_ret, k_retN, k_iff, k_whl, k_for, k_brk, k_cont, lo_nil, lo_cons, li_some, as_nm, as_tup, as_0, as_s, f_rt, f_own, f_nx, R.bind_ok, R.of_some, Option.bind_some, Option.map_some, List.length_cons, List.length_nil, List.set_cons_zero, List.set_cons_succ, List.map_cons, List.map_nil, List.replicate, List.cons_append, List.nil_append, if_true, if_false, Bool.false_eq_true, ix_t hl e])
    simp [e_kN, e_kB, e_kI, e_kS, e_var, e_glb, e_fnv, e_typ, e_neg, e_bin, e_cmp, e_chn, e_and, e_or, e_not, e_ife, e_tup, e_lst, e_ix, e_slc, e_call, e_bi, e_mt, e_lc, e_dc, e_isE, e_isV, e_attr, e_dyn, e_pm, ra_0, t_isV, t_isE, t_dyn, i_lst, i_tup, i_slc, i_ix, i_bin, k_raise, k_asgP, k_asgX, sp_nil, sp_cons, sx_nil, sx_cons, f_ex, R.bind_ex, t_and, t_or, t_not, t_var, t_cmp, t_chn, t_call, t_bi, t_ix, i_var, i_call, i_bi, i_rng, i_zip, ss_nil, ss_cons, so_none, so_some, ea_nil, ea_cons, an_1, an_2, or_1, or_2, tan_1, tan_2, tor_1, tor_2, tal_0, tal_1, ep_0, ep_1, st_, st2_, tu_nil, tu_c, w_0, w_s, ca_ok, at1, at2_0, at2_1, at4_0, at4_1, at4_2, at4_3, bo_nil, bo_c, io_nil, io_c, is_int, is_intb, is_tup, g_0, g_s, p_d, p_own, p_ref, d_d, d_own, a_d, a_own, a_ref, c_lst, c_dct, pk_nil, pk_cons, sa_nil, sa_cons, ao_nil, ao_cons, b_add, b_sub, b_mul, b_div, b_mod, b_pow, b_cat, n_int, n_bl, cv, c_eq, c_ne, c_lt, c_le, c_gt, c_ge, c_in, c_notIn, eq_int, x_lst, x_tup, x_dct, tr_bl, tr_int, bi_len, bi_lent, bi_abs, bi_int, bi_all, bi_list, bi_listk, bi_listt, bi_tuple, bi_tuplet, io_lst, io_klst, io_tup, k_nil, k_cons, k_asg, k_asgS, k_asgN, k_setix, k_ex, k_ret, k_retN, k_iff, k_whl, k_for, k_brk, k_cont, lo_nil, lo_cons, li_some, as_nm, as_tup, as_0, as_s, f_rt, f_own, f_nx, R.bind_ok, R.of_some, Option.bind_some, Option.map_some, List.length_cons, List.length_nil, List.set_cons_zero, List.set_cons_succ, List.map_cons, List.map_nil, List.replicate, List.cons_append, List.nil_append, if_true, if_false, Bool.false_eq_true, -t_chn, len_t hl, hi, a]
theorem tN_ts {Fs : Fns} {S : Store} {cs : List Nat} (hl : cs.length ≤ 4000) {x1 x2 x3 : Option Val} (j : Nat) : (sem Fs gs tN).ts [some (.d (.str (tx cs))), x1, x2, x3, some (I (j : Nat))] S = .ok (match cs[j]? with
      | some c => isD c
      | none => false) S := by
  unfold tN wLt
  cases e : cs[j]? with
  | none =>
    have hi : ¬ ((j : Int) < (cs.length : Int)) := by have := List.getElem?_eq_none_iff.mp e; omega
    simp [e_kN, e_kB, e_kI, e_kS, e_var, e_glb, e_fnv, e_typ, e_neg, e_bin, e_cmp, e_chn, e_and, e_or, e_not, e_ife, e_tup, e_lst, e_ix, e_slc, e_call, e_bi, e_mt, e_lc, e_dc, e_isE, e_isV, e_attr, e_dyn, e_pm, ra_0, t_isV, t_isE, t_dyn, i_lst, i_tup, i_slc, i_ix, i_bin, k_raise, k_asgP, k_asgX, sp_nil, sp_cons, sx_nil, sx_cons, f_ex, R.bind_ex, t_and, t_or, t_not, t_var, t_cmp, t_chn, t_call, t_bi, t_ix, i_var, i_call, i_bi, i_rng, i_zip, ss_nil, ss_cons, so_none, so_some, ea_nil, ea_cons, an_1, an_2, or_1, or_2, tan_1, tan_2, tor_1, tor_2, tal_0, tal_1, ep_0, ep_1, st_, st2_, tu_nil, tu_c, w_0, w_s, ca_ok, at1, at2_0, at2_1, at4_0, at4_1, at4_2, at4_3, bo_nil, bo_c, io_nil, io_c, is_int, is_intb, is_tup, g_0, g_s, p_d, p_own, p_ref, d_d, d_own, a_d, a_own, a_ref, c_lst, c_dct, pk_nil, pk_cons, sa_nil, sa_cons, ao_nil, ao_cons, b_add, b_sub, b_mul, b_div, b_mod, b_pow, b_cat, n_int, n_bl, cv, c_eq, c_ne, c_lt, c_le, c_gt, c_ge, c_in, c_notIn, eq_int, x_lst, x_tup, x_dct, tr_bl, tr_int, bi_len, bi_lent, bi_abs, bi_int, bi_all, bi_list, bi_listk, bi_listt, bi_tuple, bi_tuplet, io_lst, io_klst, io_tup, k_nil, k_cons, k_asg, k_asgS, k_asgN, k_setix, k_ex, k_ret, k_retN, k_iff, k_whl, k_for, k_brk, k_cont, lo_nil, lo_cons, li_some, as_nm, as_tup, as_0, as_s, f_rt, f_own, f_nx, R.bind_ok, R.of_some, Option.bind_some, Option.map_some, List.length_cons, List.length_nil, List.set_cons_zero, List.set_cons_succ, List.map_cons, List.map_nil, List.replicate, List.cons_append, List.nil_append, if_true, if_false, Bool.false_eq_true, len_t hl, hi]
  | some c =>
    have hi : (j : Int) < (cs.length : Int) := by have := (List.getElem?_eq_some_iff.mp e).1; omega
    simp [e_kN, e_kB, e_kI, e_kS, e_var, e_glb, e_fnv, e_typ, e_neg, e_bin, e_cmp, e_chn, e_and, e_or, e_not, e_ife, e_tup, e_lst, e_ix, e_slc, e_call, e_bi, e_mt, e_lc, e_dc, e_isE, e_isV, e_attr, e_dyn, e_pm, ra_0, t_isV, t_isE, t_dyn, i_lst, i_tup, i_slc, i_ix, i_bin, k_raise, k_asgP, k_asgX, sp_nil, sp_cons, sx_nil, sx_cons, f_ex, R.bind_ex, t_and, t_or, t_not, t_var, t_cmp, t_chn, t_call, t_bi, t_ix, i_var, i_call, i_bi, i_rng, i_zip, ss_nil, ss_cons, so_none, so_some, ea_nil, ea_cons, an_1, an_2, or_1, or_2, tan_1, tan_2, tor_1, tor_2, tal_0, tal_1, ep_0, ep_1, st_, st2_, tu_nil, tu_c, w_0, w_s, ca_ok, at1, at2_0, at2_1, at4_0, at4_1, at4_2, at4_3, bo_nil, bo_c, io_nil, io_c, is_int, is_intb, is_tup, g_0, g_s, p_d, p_own, p_ref, d_d, d_own, a_d, a_own, a_ref, c_lst, c_dct, pk_nil, pk_cons, sa_nil, sa_cons, ao_nil, ao_cons, b_add, b_sub, b_mul, b_div, b_mod, b_pow, b_cat, n_int, n_bl, cv, c_eq, c_ne, c_lt, c_le, c_gt, c_ge, c_in, c_notIn, eq_int, x_lst, x_tup, x_dct, tr_bl, tr_int, bi_len, bi_lent, bi_abs, bi_int, bi_all, bi_list, bi_listk, bi_listt, bi_tuple, bi_tuplet, io_lst, io_klst, io_tup, k_nil, k_cons, k_asg, k_asgS, k_asgN, k_setix, k_ex, k_ret, k_retN, k_iff, k_whl, k_for, k_brk, k_cont, lo_nil, lo_cons, li_some, as_nm, as_tup, as_0, as_s, f_rt, f_own, f_nx, R.bind_ok, R.of_some, Option.bind_some, Option.map_some, List.length_cons, List.length_nil, List.set_cons_zero, List.set_cons_succ, List.map_cons, List.map_nil, List.replicate, List.cons_append, List.nil_append, if_true, if_false, Bool.false_eq_true, len_t hl, hi, ix_t hl e, in_D]
theorem int_of {cs : List Nat} {i c : Nat} (e : cs[i]? = some c) (hD : isD c = true) (h12 : ¬ 12 < run isD (cs.drop i)) : ∃ v : Int, biD .int [.str (tx (part cs i (i + run isD (cs.drop i))))] = some (I v) ∧ v.natAbs < 10 ^ 12 := by
  have hi := (List.getElem?_eq_some_iff.mp e).1
  have bd := run_bd isD (cs := cs) (i := i) (by omega)
  have pr := part_run (p := isD) (cs := cs) (i := i)
  exact int_t (cs := part cs i (i + run isD (cs.drop i))) (by rw [pr]; exact fun x hx => tw_all _ x hx) (by
    rw [pr]
    intro q
    have : run isD (cs.drop i) = 0 := by unfold run; rw [q]; rfl
    rw [run_yes e hD] at this
    omega) (by rw [part_len _ _ _ bd (by omega)]; omega)
theorem lbody (Fs : Fns) (S : Store) {cs : List Nat} (hl : cs.length ≤ 4000) (hk : ∀ c ∈ cs, c < 1114112) {i c : Nat} (e : cs[i]? = some c) (acc : List D) (ha : acc.length ≤ i) (a b : Option Val) (hW : isW c = false) : match tokAt cs i c with
    | .inl p => ∃ E', semB Fs gs 100000 lB [some (.d (.str (tx cs))), some (.ref S.length), some (I (i : Nat)), a, b] (S ++ [.lst acc]) = .ok (.rt (I ((p : Nat) : Int)), E') (S ++ [.lst acc])
    | .inr (k, v, j) => semB Fs gs 100000 lB [some (.d (.str (tx cs))), some (.ref S.length), some (I (i : Nat)), a, b] (S ++ [.lst acc]) = .ok (.nx, [some (.d (.str (tx cs))), some (.ref S.length), some (I (j : Nat)), some (.d (sg c)), some (I (j : Nat))]) (S ++ [.lst (acc ++ [.tup [k, v, .int ((i : Nat) : Int)]])]) := by
  have hi := (List.getElem?_eq_some_iff.mp e).1
  have hc := hk c (List.mem_of_getElem? e)
  have bd := fun p => run_bd p (cs := cs) (i := i) (by omega)
  have az := az_test (Fs := Fs) (Gs := gs) (E := [some (.d (.str (tx cs))), some (.ref S.length), some (I (i : Nat)), some (.d (sg c)), some (I ((i : Int) + 1))]) (S := S ++ [.lst acc]) (x := .var 3) hc rfl
  have app : ∀ (x : Ex) (y : D) (j : Nat), (sem Fs gs x).ev [some (.d (.str (tx cs))), some (.ref S.length), some (I (i : Nat)), some (.d (sg c)), some (I ((j : Nat) : Int))] (S ++ [.lst acc]) = .ok (.d y) (S ++ [.lst acc]) →
      semS Fs gs 100000 (.ex (.mt .append (.var 1) [x])) [some (.d (.str (tx cs))), some (.ref S.length), some (I (i : Nat)), some (.d (sg c)), some (I ((j : Nat) : Int))] (S ++ [.lst acc]) = .ok (.nx, [some (.d (.str (tx cs))), some (.ref S.length), some (I (i : Nat)), some (.d (sg c)), some (I ((j : Nat) : Int))]) (S ++ [.lst (acc ++ [y])]) := fun x y j h => app_run rfl h (by omega)
  unfold tokAt
  cases hL : isL c with
  | true =>
    rw [hL] at az
    rw [if_pos rfl]
    have w : semS Fs gs 100000 (.whl tW stepE) [some (.d (.str (tx cs))), some (.ref S.length), some (I (i : Nat)), some (.d (sg c)), some (I ((i : Int) + 1))] (S ++ [.lst acc]) = .ok (.nx, [some (.d (.str (tx cs))), some (.ref S.length), some (I (i : Nat)), some (.d (sg c)), some (I ((i + run isL (cs.drop i) : Nat) : Int))]) (S ++ [.lst acc]) := by
      have l := lend_loop Fs (S ++ [.lst acc]) (p := isL) (t := tW) (cs := cs) (x0 := some (.d (.str (tx cs)))) (x1 := some (.ref S.length)) (x2 := some (I (i : Nat))) (x3 := some (.d (sg c))) (fun j => tW_ts hl hk j) 4000 100000 (i + 1) (by omega) (by omega)
      rw [run_yes e hL, show i + (1 + run isL (cs.drop (i + 1))) = i + 1 + run isL (cs.drop (i + 1)) by omega]
      exact l
    rw [Int.natCast_add] at w
    by_cases h10 : 10 < run isL (cs.drop i)
    · rw [if_pos h10]
      refine ⟨?_, ?_⟩
      rotate_left
      · unfold lB brW
        simp [e_kN, e_kB, e_kI, e_kS, e_var, e_glb, e_fnv, e_typ, e_neg, e_bin, e_cmp, e_chn, e_and, e_or, e_not, e_ife, e_tup, e_lst, e_ix, e_slc, e_call, e_bi, e_mt, e_lc, e_dc, e_isE, e_isV, e_attr, e_dyn, e_pm, ra_0, t_isV, t_isE, t_dyn, i_lst, i_tup, i_slc, i_ix, i_bin, k_raise, k_asgP, k_asgX, sp_nil, sp_cons, sx_nil, sx_cons, f_ex, R.bind_ex, t_and, t_or, t_not, t_var, t_cmp, t_chn, t_call, t_bi, t_ix, i_var, i_call, i_bi, i_rng, i_zip, ss_nil, ss_cons, so_none, so_some, ea_nil, ea_cons, an_1, an_2, or_1, or_2, tan_1, tan_2, tor_1, tor_2, tal_0, tal_1, ep_0, ep_1, st_, st2_, tu_nil, tu_c, w_0, w_s, ca_ok, at1, at2_0, at2_1, at4_0, at4_1, at4_2, at4_3, bo_nil, bo_c, io_nil, io_c, is_int, is_intb, is_tup, g_0, g_s, p_d, p_own, p_ref, d_d, d_own, a_d, a_own, a_ref, c_lst, c_dct, pk_nil, pk_cons, sa_nil, sa_cons, ao_nil, ao_cons, b_add, b_sub, b_mul, b_div, b_mod, b_pow, b_cat, n_int, n_bl, cv, c_eq, c_ne, c_lt, c_le, c_gt, c_ge, c_in, c_notIn, eq_int, x_lst, x_tup, x_dct, tr_bl, tr_int, bi_len, bi_lent, bi_abs, bi_int, bi_all, bi_list, bi_listk, bi_listt, bi_tuple, bi_tuplet, io_lst, io_klst, io_tup, k_nil, k_cons, k_asg, k_asgS, k_asgN, k_setix, k_ex, k_ret, k_retN, k_iff, k_whl, k_for, k_brk, k_cont, lo_nil, lo_cons, li_some, as_nm, as_tup, as_0, as_s, f_rt, f_own, f_nx, R.bind_ok, R.of_some, Option.bind_some, Option.map_some, List.length_cons, List.length_nil, List.set_cons_zero, List.set_cons_succ, List.map_cons, List.map_nil, List.replicate, List.cons_append, List.nil_append, if_true, if_false, Bool.false_eq_true, -t_chn, -k_whl, ix_t hl e, in_W, hW, az, w, PySem.sizeLine, q10, h10]
        rfl
    · rw [if_neg h10]
      have ct := cut_t hl (show i ≤ cs.length by omega) (bd isL)
      rw [Int.natCast_add] at ct
      have ap := app (.tup [(.kS "word"), (.slc (.var 0) (some (.var 2)) (some (.var 4))), (.var 2)]) (.tup [.str "word", .str (tx (part cs i (i + run isL (cs.drop i)))), .int ((i : Nat) : Int)]) (i + run isL (cs.drop i)) (by simp [e_kN, e_kB, e_kI, e_kS, e_var, e_glb, e_fnv, e_typ, e_neg, e_bin, e_cmp, e_chn, e_and, e_or, e_not, e_ife, e_tup, e_lst, e_ix, e_slc, e_call, e_bi, e_mt, e_lc, e_dc, e_isE, e_isV, e_attr, e_dyn, e_pm, ra_0, t_isV, t_isE, t_dyn, i_lst, i_tup, i_slc, i_ix, i_bin, k_raise, k_asgP, k_asgX, sp_nil, sp_cons, sx_nil, sx_cons, f_ex, R.bind_ex, t_and, t_or, t_not, t_var, t_cmp, t_chn, t_call, t_bi, t_ix, i_var, i_call, i_bi, i_rng, i_zip, ss_nil, ss_cons, so_none, so_some, ea_nil, ea_cons, an_1, an_2, or_1, or_2, tan_1, tan_2, tor_1, tor_2, tal_0, tal_1, ep_0, ep_1, st_, st2_, tu_nil, tu_c, w_0, w_s, ca_ok, at1, at2_0, at2_1, at4_0, at4_1, at4_2, at4_3, bo_nil, bo_c, io_nil, io_c, is_int, is_intb, is_tup, g_0, g_s, p_d, p_own, p_ref, d_d, d_own, a_d, a_own, a_ref, c_lst, c_dct, pk_nil, pk_cons, sa_nil, sa_cons, ao_nil, ao_cons, b_add, b_sub, b_mul, b_div, b_mod, b_pow, b_cat, n_int, n_bl, cv, c_eq, c_ne, c_lt, c_le, c_gt, c_ge, c_in, c_notIn, eq_int, x_lst, x_tup, x_dct, tr_bl, tr_int, bi_len, bi_lent, bi_abs, bi_int, bi_all, bi_list, bi_listk, bi_listt, bi_tuple, bi_tuplet, io_lst, io_klst, io_tup, k_nil, k_cons, k_asg, k_asgS, k_asgN, k_setix, k_ex, k_ret, k_retN, k_iff, k_whl, k_for, k_brk, k_cont, lo_nil, lo_cons, li_some, as_nm, as_tup, as_0, as_s, f_rt, f_own, f_nx, R.bind_ok, R.of_some, Option.bind_some, Option.map_some, List.length_cons, List.length_nil, List.set_cons_zero, List.set_cons_succ, List.map_cons, List.map_nil, List.replicate, List.cons_append, List.nil_append, if_true, if_false, Bool.false_eq_true, PySem.sizeLine, ct])
      rw [Int.natCast_add] at ap
      show semB Fs gs 100000 lB _ _ = _
      unfold lB brW apW
      simp [e_kN, e_kB, e_kI, e_kS, e_var, e_glb, e_fnv, e_typ, e_neg, e_bin, e_cmp, e_chn, e_and, e_or, e_not, e_ife, e_tup, e_lst, e_ix, e_slc, e_call, e_bi, e_mt, e_lc, e_dc, e_isE, e_isV, e_attr, e_dyn, e_pm, ra_0, t_isV, t_isE, t_dyn, i_lst, i_tup, i_slc, i_ix, i_bin, k_raise, k_asgP, k_asgX, sp_nil, sp_cons, sx_nil, sx_cons, f_ex, R.bind_ex, t_and, t_or, t_not, t_var, t_cmp, t_chn, t_call, t_bi, t_ix, i_var, i_call, i_bi, i_rng, i_zip, ss_nil, ss_cons, so_none, so_some, ea_nil, ea_cons, an_1, an_2, or_1, or_2, tan_1, tan_2, tor_1, tor_2, tal_0, tal_1, ep_0, ep_1, st_, st2_, tu_nil, tu_c, w_0, w_s, ca_ok, at1, at2_0, at2_1, at4_0, at4_1, at4_2, at4_3, bo_nil, bo_c, io_nil, io_c, is_int, is_intb, is_tup, g_0, g_s, p_d, p_own, p_ref, d_d, d_own, a_d, a_own, a_ref, c_lst, c_dct, pk_nil, pk_cons, sa_nil, sa_cons, ao_nil, ao_cons, b_add, b_sub, b_mul, b_div, b_mod, b_pow, b_cat, n_int, n_bl, cv, c_eq, c_ne, c_lt, c_le, c_gt, c_ge, c_in, c_notIn, eq_int, x_lst, x_tup, x_dct, tr_bl, tr_int, bi_len, bi_lent, bi_abs, bi_int, bi_all, bi_list, bi_listk, bi_listt, bi_tuple, bi_tuplet, io_lst, io_klst, io_tup, k_nil, k_cons, k_asg, k_asgS, k_asgN, k_setix, k_ex, k_ret, k_retN, k_iff, k_whl, k_for, k_brk, k_cont, lo_nil, lo_cons, li_some, as_nm, as_tup, as_0, as_s, f_rt, f_own, f_nx, R.bind_ok, R.of_some, Option.bind_some, Option.map_some, List.length_cons, List.length_nil, List.set_cons_zero, List.set_cons_succ, List.map_cons, List.map_nil, List.replicate, List.cons_append, List.nil_append, if_true, if_false, Bool.false_eq_true, -t_chn, -k_whl, -k_ex, ix_t hl e, in_W, hW, az, w, PySem.sizeLine, q10, h10, ap]
  | false =>
    rw [hL] at az
    rw [if_neg Bool.false_ne_true]
    cases hD : isD c with
    | true =>
      rw [if_pos rfl]
      have w : semS Fs gs 100000 (.whl tN stepE) [some (.d (.str (tx cs))), some (.ref S.length), some (I (i : Nat)), some (.d (sg c)), some (I ((i : Int) + 1))] (S ++ [.lst acc]) = .ok (.nx, [some (.d (.str (tx cs))), some (.ref S.length), some (I (i : Nat)), some (.d (sg c)), some (I ((i + run isD (cs.drop i) : Nat) : Int))]) (S ++ [.lst acc]) := by
        have l := lend_loop Fs (S ++ [.lst acc]) (p := isD) (t := tN) (cs := cs) (x0 := some (.d (.str (tx cs)))) (x1 := some (.ref S.length)) (x2 := some (I (i : Nat))) (x3 := some (.d (sg c))) (fun j => tN_ts hl j) 4000 100000 (i + 1) (by omega) (by omega)
        rw [run_yes e hD, show i + (1 + run isD (cs.drop (i + 1))) = i + 1 + run isD (cs.drop (i + 1)) by omega]
        exact l
      rw [Int.natCast_add] at w
      by_cases h0 : c = 48 ∧ 1 < run isD (cs.drop i)
      · rw [if_pos h0]
        obtain ⟨h1, h2⟩ := h0
        have d2 : decide (c = 48) = true := decide_eq_true h1
        refine ⟨?_, ?_⟩
        rotate_left
        · unfold lB brN
          simp [e_kN, e_kB, e_kI, e_kS, e_var, e_glb, e_fnv, e_typ, e_neg, e_bin, e_cmp, e_chn, e_and, e_or, e_not, e_ife, e_tup, e_lst, e_ix, e_slc, e_call, e_bi, e_mt, e_lc, e_dc, e_isE, e_isV, e_attr, e_dyn, e_pm, ra_0, t_isV, t_isE, t_dyn, i_lst, i_tup, i_slc, i_ix, i_bin, k_raise, k_asgP, k_asgX, sp_nil, sp_cons, sx_nil, sx_cons, f_ex, R.bind_ex, t_and, t_or, t_not, t_var, t_cmp, t_chn, t_call, t_bi, t_ix, i_var, i_call, i_bi, i_rng, i_zip, ss_nil, ss_cons, so_none, so_some, ea_nil, ea_cons, an_1, an_2, or_1, or_2, tan_1, tan_2, tor_1, tor_2, tal_0, tal_1, ep_0, ep_1, st_, st2_, tu_nil, tu_c, w_0, w_s, ca_ok, at1, at2_0, at2_1, at4_0, at4_1, at4_2, at4_3, bo_nil, bo_c, io_nil, io_c, is_int, is_intb, is_tup, g_0, g_s, p_d, p_own, p_ref, d_d, d_own, a_d, a_own, a_ref, c_lst, c_dct, pk_nil, pk_cons, sa_nil, sa_cons, ao_nil, ao_cons, b_add, b_sub, b_mul, b_div, b_mod, b_pow, b_cat, n_int, n_bl, cv, c_eq, c_ne, c_lt, c_le, c_gt, c_ge, c_in, c_notIn, eq_int, x_lst, x_tup, x_dct, tr_bl, tr_int, bi_len, bi_lent, bi_abs, bi_int, bi_all, bi_list, bi_listk, bi_listt, bi_tuple, bi_tuplet, io_lst, io_klst, io_tup, k_nil, k_cons, k_asg, k_asgS, k_asgN, k_setix, k_ex, k_ret, k_retN, k_iff, k_whl, k_for, k_brk, k_cont, lo_nil, lo_cons, li_some, as_nm, as_tup, as_0, as_s, f_rt, f_own, f_nx, R.bind_ok, R.of_some, Option.bind_some, Option.map_some, List.length_cons, List.length_nil, List.set_cons_zero, List.set_cons_succ, List.map_cons, List.map_nil, List.replicate, List.cons_append, List.nil_append, if_true, if_false, Bool.false_eq_true, -t_chn, -k_whl, ix_t hl e, in_W, hW, in_D, hD, az, w, PySem.sizeLine, q1, h2, eq_0, d2]
          rfl
      · rw [if_neg h0]
        by_cases h12 : 12 < run isD (cs.drop i)
        · rw [if_pos h12]
          refine ⟨?_, ?_⟩
          rotate_left
          · unfold lB brN
            by_cases z : c = 48
            · have d2 : decide (c = 48) = true := decide_eq_true z
              have z1 : ¬ 1 < run isD (cs.drop i) := fun q => h0 ⟨z, q⟩
              omega
            · have d2 : decide (c = 48) = false := decide_eq_false z
              simp [e_kN, e_kB, e_kI, e_kS, e_var, e_glb, e_fnv, e_typ, e_neg, e_bin, e_cmp, e_chn, e_and, e_or, e_not, e_ife, e_tup, e_lst, e_ix, e_slc, e_call, e_bi, e_mt, e_lc, e_dc, e_isE, e_isV, e_attr, e_dyn, e_pm, ra_0, t_isV, t_isE, t_dyn, i_lst, i_tup, i_slc, i_ix, i_bin, k_raise, k_asgP, k_asgX, sp_nil, sp_cons, sx_nil, sx_cons, f_ex, R.bind_ex, t_and, t_or, t_not, t_var, t_cmp, t_chn, t_call, t_bi, t_ix, i_var, i_call, i_bi, i_rng, i_zip, ss_nil, ss_cons, so_none, so_some, ea_nil, ea_cons, an_1, an_2, or_1, or_2, tan_1, tan_2, tor_1, tor_2, tal_0, tal_1, ep_0, ep_1, st_, st2_, tu_nil, tu_c, w_0, w_s, ca_ok, at1, at2_0, at2_1, at4_0, at4_1, at4_2, at4_3, bo_nil, bo_c, io_nil, io_c, is_int, is_intb, is_tup, g_0, g_s, p_d, p_own, p_ref, d_d, d_own, a_d, a_own, a_ref, c_lst, c_dct, pk_nil, pk_cons, sa_nil, sa_cons, ao_nil, ao_cons, b_add, b_sub, b_mul, b_div, b_mod, b_pow, b_cat, n_int, n_bl, cv, c_eq, c_ne, c_lt, c_le, c_gt, c_ge, c_in, c_notIn, eq_int, x_lst, x_tup, x_dct, tr_bl, tr_int, bi_len, bi_lent, bi_abs, bi_int, bi_all, bi_list, bi_listk, bi_listt, bi_tuple, bi_tuplet, io_lst, io_klst, io_tup, k_nil, k_cons, k_asg, k_asgS, k_asgN, k_setix, k_ex, k_ret, k_retN, k_iff, k_whl, k_for, k_brk, k_cont, lo_nil, lo_cons, li_some, as_nm, as_tup, as_0, as_s, f_rt, f_own, f_nx, R.bind_ok, R.of_some, Option.bind_some, Option.map_some, List.length_cons, List.length_nil, List.set_cons_zero, List.set_cons_succ, List.map_cons, List.map_nil, List.replicate, List.cons_append, List.nil_append, if_true, if_false, Bool.false_eq_true, -t_chn, -k_whl, ix_t hl e, in_W, hW, in_D, hD, az, w, PySem.sizeLine, q12, h12, eq_0, d2, z]
              rfl
        · rw [if_neg h12]
          obtain ⟨v, ev, _⟩ := int_of e hD h12
          have ct := cut_t hl (show i ≤ cs.length by omega) (bd isD)
          rw [Int.natCast_add] at ct
          rw [ev]
          have ap := app (.tup [(.kS "int"), (.bi .int [(.slc (.var 0) (some (.var 2)) (some (.var 4)))]), (.var 2)]) (.tup [.str "int", .int v, .int ((i : Nat) : Int)]) (i + run isD (cs.drop i)) (by simp [e_kN, e_kB, e_kI, e_kS, e_var, e_glb, e_fnv, e_typ, e_neg, e_bin, e_cmp, e_chn, e_and, e_or, e_not, e_ife, e_tup, e_lst, e_ix, e_slc, e_call, e_bi, e_mt, e_lc, e_dc, e_isE, e_isV, e_attr, e_dyn, e_pm, ra_0, t_isV, t_isE, t_dyn, i_lst, i_tup, i_slc, i_ix, i_bin, k_raise, k_asgP, k_asgX, sp_nil, sp_cons, sx_nil, sx_cons, f_ex, R.bind_ex, t_and, t_or, t_not, t_var, t_cmp, t_chn, t_call, t_bi, t_ix, i_var, i_call, i_bi, i_rng, i_zip, ss_nil, ss_cons, so_none, so_some, ea_nil, ea_cons, an_1, an_2, or_1, or_2, tan_1, tan_2, tor_1, tor_2, tal_0, tal_1, ep_0, ep_1, st_, st2_, tu_nil, tu_c, w_0, w_s, ca_ok, at1, at2_0, at2_1, at4_0, at4_1, at4_2, at4_3, bo_nil, bo_c, io_nil, io_c, is_int, is_intb, is_tup, g_0, g_s, p_d, p_own, p_ref, d_d, d_own, a_d, a_own, a_ref, c_lst, c_dct, pk_nil, pk_cons, sa_nil, sa_cons, ao_nil, ao_cons, b_add, b_sub, b_mul, b_div, b_mod, b_pow, b_cat, n_int, n_bl, cv, c_eq, c_ne, c_lt, c_le, c_gt, c_ge, c_in, c_notIn, eq_int, x_lst, x_tup, x_dct, tr_bl, tr_int, bi_len, bi_lent, bi_abs, bi_int, bi_all, bi_list, bi_listk, bi_listt, bi_tuple, bi_tuplet, io_lst, io_klst, io_tup, k_nil, k_cons, k_asg, k_asgS, k_asgN, k_setix, k_ex, k_ret, k_retN, k_iff, k_whl, k_for, k_brk, k_cont, lo_nil, lo_cons, li_some, as_nm, as_tup, as_0, as_s, f_rt, f_own, f_nx, R.bind_ok, R.of_some, Option.bind_some, Option.map_some, List.length_cons, List.length_nil, List.set_cons_zero, List.set_cons_succ, List.map_cons, List.map_nil, List.replicate, List.cons_append, List.nil_append, if_true, if_false, Bool.false_eq_true, PySem.sizeLine, ct, ev])
          rw [Int.natCast_add] at ap
          show semB Fs gs 100000 lB _ _ = _
          unfold lB brN apN
          by_cases z : c = 48
          · have d2 : decide (c = 48) = true := decide_eq_true z
            have z1 : ¬ 1 < run isD (cs.drop i) := fun q => h0 ⟨z, q⟩
            simp [e_kN, e_kB, e_kI, e_kS, e_var, e_glb, e_fnv, e_typ, e_neg, e_bin, e_cmp, e_chn, e_and, e_or, e_not, e_ife, e_tup, e_lst, e_ix, e_slc, e_call, e_bi, e_mt, e_lc, e_dc, e_isE, e_isV, e_attr, e_dyn, e_pm, ra_0, t_isV, t_isE, t_dyn, i_lst, i_tup, i_slc, i_ix, i_bin, k_raise, k_asgP, k_asgX, sp_nil, sp_cons, sx_nil, sx_cons, f_ex, R.bind_ex, t_and, t_or, t_not, t_var, t_cmp, t_chn, t_call, t_bi, t_ix, i_var, i_call, i_bi, i_rng, i_zip, ss_nil, ss_cons, so_none, so_some, ea_nil, ea_cons, an_1, an_2, or_1, or_2, tan_1, tan_2, tor_1, tor_2, tal_0, tal_1, ep_0, ep_1, st_, st2_, tu_nil, tu_c, w_0, w_s, ca_ok, at1, at2_0, at2_1, at4_0, at4_1, at4_2, at4_3, bo_nil, bo_c, io_nil, io_c, is_int, is_intb, is_tup, g_0, g_s, p_d, p_own, p_ref, d_d, d_own, a_d, a_own, a_ref, c_lst, c_dct, pk_nil, pk_cons, sa_nil, sa_cons, ao_nil, ao_cons, b_add, b_sub, b_mul, b_div, b_mod, b_pow, b_cat, n_int, n_bl, cv, c_eq, c_ne, c_lt, c_le, c_gt, c_ge, c_in, c_notIn, eq_int, x_lst, x_tup, x_dct, tr_bl, tr_int, bi_len, bi_lent, bi_abs, bi_int, bi_all, bi_list, bi_listk, bi_listt, bi_tuple, bi_tuplet, io_lst, io_klst, io_tup, k_nil, k_cons, k_asg, k_asgS, k_asgN, k_setix, k_ex, k_ret, k_retN, k_iff, k_whl, k_for, k_brk, k_cont, lo_nil, lo_cons, li_some, as_nm, as_tup, as_0, as_s, f_rt, f_own, f_nx, R.bind_ok, R.of_some, Option.bind_some, Option.map_some, List.length_cons, List.length_nil, List.set_cons_zero, List.set_cons_succ, List.map_cons, List.map_nil, List.replicate, List.cons_append, List.nil_append, if_true, if_false, Bool.false_eq_true, -t_chn, -k_whl, -k_ex, ix_t hl e, in_W, hW, in_D, hD, az, w, PySem.sizeLine, q1, q12, h12, z1, eq_0, d2, ap]
          · have d2 : decide (c = 48) = false := decide_eq_false z
            simp [e_kN, e_kB, e_kI, e_kS, e_var, e_glb, e_fnv, e_typ, e_neg, e_bin, e_cmp, e_chn, e_and, e_or, e_not, e_ife, e_tup, e_lst, e_ix, e_slc, e_call, e_bi, e_mt, e_lc, e_dc, e_isE, e_isV, e_attr, e_dyn, e_pm, ra_0, t_isV, t_isE, t_dyn, i_lst, i_tup, i_slc, i_ix, i_bin, k_raise, k_asgP, k_asgX, sp_nil, sp_cons, sx_nil, sx_cons, f_ex, R.bind_ex, t_and, t_or, t_not, t_var, t_cmp, t_chn, t_call, t_bi, t_ix, i_var, i_call, i_bi, i_rng, i_zip, ss_nil, ss_cons, so_none, so_some, ea_nil, ea_cons, an_1, an_2, or_1, or_2, tan_1, tan_2, tor_1, tor_2, tal_0, tal_1, ep_0, ep_1, st_, st2_, tu_nil, tu_c, w_0, w_s, ca_ok, at1, at2_0, at2_1, at4_0, at4_1, at4_2, at4_3, bo_nil, bo_c, io_nil, io_c, is_int, is_intb, is_tup, g_0, g_s, p_d, p_own, p_ref, d_d, d_own, a_d, a_own, a_ref, c_lst, c_dct, pk_nil, pk_cons, sa_nil, sa_cons, ao_nil, ao_cons, b_add, b_sub, b_mul, b_div, b_mod, b_pow, b_cat, n_int, n_bl, cv, c_eq, c_ne, c_lt, c_le, c_gt, c_ge, c_in, c_notIn, eq_int, x_lst, x_tup, x_dct, tr_bl, tr_int, bi_len, bi_lent, bi_abs, bi_int, bi_all, bi_list, bi_listk, bi_listt, bi_tuple, bi_tuplet, io_lst, io_klst, io_tup, k_nil, k_cons, k_asg, k_asgS, k_asgN, k_setix, k_ex, k_ret, k_retN, k_iff, k_whl, k_for, k_brk, k_cont, lo_nil, lo_cons, li_some, as_nm, as_tup, as_0, as_s, f_rt, f_own, f_nx, R.bind_ok, R.of_some, Option.bind_some, Option.map_some, List.length_cons, List.length_nil, List.set_cons_zero, List.set_cons_succ, List.map_cons, List.map_nil, List.replicate, List.cons_append, List.nil_append, if_true, if_false, Bool.false_eq_true, -t_chn, -k_whl, -k_ex, ix_t hl e, in_W, hW, in_D, hD, az, w, PySem.sizeLine, q12, h12, eq_0, d2, z, ap]
    | false =>
      rw [if_neg Bool.false_ne_true]
      cases hS : isS c with
      | true =>
        rw [if_pos rfl]
        have ap := app (.tup [(.kS "sign"), (.var 3), (.var 2)]) (.tup [.str "sign", sg c, .int ((i : Nat) : Int)]) (i + 1) (by simp [e_kN, e_kB, e_kI, e_kS, e_var, e_glb, e_fnv, e_typ, e_neg, e_bin, e_cmp, e_chn, e_and, e_or, e_not, e_ife, e_tup, e_lst, e_ix, e_slc, e_call, e_bi, e_mt, e_lc, e_dc, e_isE, e_isV, e_attr, e_dyn, e_pm, ra_0, t_isV, t_isE, t_dyn, i_lst, i_tup, i_slc, i_ix, i_bin, k_raise, k_asgP, k_asgX, sp_nil, sp_cons, sx_nil, sx_cons, f_ex, R.bind_ex, t_and, t_or, t_not, t_var, t_cmp, t_chn, t_call, t_bi, t_ix, i_var, i_call, i_bi, i_rng, i_zip, ss_nil, ss_cons, so_none, so_some, ea_nil, ea_cons, an_1, an_2, or_1, or_2, tan_1, tan_2, tor_1, tor_2, tal_0, tal_1, ep_0, ep_1, st_, st2_, tu_nil, tu_c, w_0, w_s, ca_ok, at1, at2_0, at2_1, at4_0, at4_1, at4_2, at4_3, bo_nil, bo_c, io_nil, io_c, is_int, is_intb, is_tup, g_0, g_s, p_d, p_own, p_ref, d_d, d_own, a_d, a_own, a_ref, c_lst, c_dct, pk_nil, pk_cons, sa_nil, sa_cons, ao_nil, ao_cons, b_add, b_sub, b_mul, b_div, b_mod, b_pow, b_cat, n_int, n_bl, cv, c_eq, c_ne, c_lt, c_le, c_gt, c_ge, c_in, c_notIn, eq_int, x_lst, x_tup, x_dct, tr_bl, tr_int, bi_len, bi_lent, bi_abs, bi_int, bi_all, bi_list, bi_listk, bi_listt, bi_tuple, bi_tuplet, io_lst, io_klst, io_tup, k_nil, k_cons, k_asg, k_asgS, k_asgN, k_setix, k_ex, k_ret, k_retN, k_iff, k_whl, k_for, k_brk, k_cont, lo_nil, lo_cons, li_some, as_nm, as_tup, as_0, as_s, f_rt, f_own, f_nx, R.bind_ok, R.of_some, Option.bind_some, Option.map_some, List.length_cons, List.length_nil, List.set_cons_zero, List.set_cons_succ, List.map_cons, List.map_nil, List.replicate, List.cons_append, List.nil_append, if_true, if_false, Bool.false_eq_true, PySem.sizeLine])
        rw [Int.natCast_add] at ap
        show semB Fs gs 100000 lB _ _ = _
        unfold lB brS apS
        simp at ap
        simp [e_kN, e_kB, e_kI, e_kS, e_var, e_glb, e_fnv, e_typ, e_neg, e_bin, e_cmp, e_chn, e_and, e_or, e_not, e_ife, e_tup, e_lst, e_ix, e_slc, e_call, e_bi, e_mt, e_lc, e_dc, e_isE, e_isV, e_attr, e_dyn, e_pm, ra_0, t_isV, t_isE, t_dyn, i_lst, i_tup, i_slc, i_ix, i_bin, k_raise, k_asgP, k_asgX, sp_nil, sp_cons, sx_nil, sx_cons, f_ex, R.bind_ex, t_and, t_or, t_not, t_var, t_cmp, t_chn, t_call, t_bi, t_ix, i_var, i_call, i_bi, i_rng, i_zip, ss_nil, ss_cons, so_none, so_some, ea_nil, ea_cons, an_1, an_2, or_1, or_2, tan_1, tan_2, tor_1, tor_2, tal_0, tal_1, ep_0, ep_1, st_, st2_, tu_nil, tu_c, w_0, w_s, ca_ok, at1, at2_0, at2_1, at4_0, at4_1, at4_2, at4_3, bo_nil, bo_c, io_nil, io_c, is_int, is_intb, is_tup, g_0, g_s, p_d, p_own, p_ref, d_d, d_own, a_d, a_own, a_ref, c_lst, c_dct, pk_nil, pk_cons, sa_nil, sa_cons, ao_nil, ao_cons, b_add, b_sub, b_mul, b_div, b_mod, b_pow, b_cat, n_int, n_bl, cv, c_eq, c_ne, c_lt, c_le, c_gt, c_ge, c_in, c_notIn, eq_int, x_lst, x_tup, x_dct, tr_bl, tr_int, bi_len, bi_lent, bi_abs, bi_int, bi_all, bi_list, bi_listk, bi_listt, bi_tuple, bi_tuplet, io_lst, io_klst, io_tup, k_nil, k_cons, k_asg, k_asgS, k_asgN, k_setix, k_ex, k_ret, k_retN, k_iff, k_whl, k_for, k_brk, k_cont, lo_nil, lo_cons, li_some, as_nm, as_tup, as_0, as_s, f_rt, f_own, f_nx, R.bind_ok, R.of_some, Option.bind_some, Option.map_some, List.length_cons, List.length_nil, List.set_cons_zero, List.set_cons_succ, List.map_cons, List.map_nil, List.replicate, List.cons_append, List.nil_append, if_true, if_false, Bool.false_eq_true, -t_chn, -k_whl, -k_ex, ix_t hl e, in_W, hW, in_D, hD, in_S, hS, az, PySem.sizeLine, ap]
      | false =>
        rw [if_neg Bool.false_ne_true]
        refine ⟨?_, ?_⟩
        rotate_left
        · unfold lB brS
          simp [e_kN, e_kB, e_kI, e_kS, e_var, e_glb, e_fnv, e_typ, e_neg, e_bin, e_cmp, e_chn, e_and, e_or, e_not, e_ife, e_tup, e_lst, e_ix, e_slc, e_call, e_bi, e_mt, e_lc, e_dc, e_isE, e_isV, e_attr, e_dyn, e_pm, ra_0, t_isV, t_isE, t_dyn, i_lst, i_tup, i_slc, i_ix, i_bin, k_raise, k_asgP, k_asgX, sp_nil, sp_cons, sx_nil, sx_cons, f_ex, R.bind_ex, t_and, t_or, t_not, t_var, t_cmp, t_chn, t_call, t_bi, t_ix, i_var, i_call, i_bi, i_rng, i_zip, ss_nil, ss_cons, so_none, so_some, ea_nil, ea_cons, an_1, an_2, or_1, or_2, tan_1, tan_2, tor_1, tor_2, tal_0, tal_1, ep_0, ep_1, st_, st2_, tu_nil, tu_c, w_0, w_s, ca_ok, at1, at2_0, at2_1, at4_0, at4_1, at4_2, at4_3, bo_nil, bo_c, io_nil, io_c, is_int, is_intb, is_tup, g_0, g_s, p_d, p_own, p_ref, d_d, d_own, a_d, a_own, a_ref, c_lst, c_dct, pk_nil, pk_cons, sa_nil, sa_cons, ao_nil, ao_cons, b_add, b_sub, b_mul, b_div, b_mod, b_pow, b_cat, n_int, n_bl, cv, c_eq, c_ne, c_lt, c_le, c_gt, c_ge, c_in, c_notIn, eq_int, x_lst, x_tup, x_dct, tr_bl, tr_int, bi_len, bi_lent, bi_abs, bi_int, bi_all, bi_list, bi_listk, bi_listt, bi_tuple, bi_tuplet, io_lst, io_klst, io_tup, k_nil, k_cons, k_asg, k_asgS, k_asgN, k_setix, k_ex, k_ret, k_retN, k_iff, k_whl, k_for, k_brk, k_cont, lo_nil, lo_cons, li_some, as_nm, as_tup, as_0, as_s, f_rt, f_own, f_nx, R.bind_ok, R.of_some, Option.bind_some, Option.map_some, List.length_cons, List.length_nil, List.set_cons_zero, List.set_cons_succ, List.map_cons, List.map_nil, List.replicate, List.cons_append, List.nil_append, if_true, if_false, Bool.false_eq_true, -t_chn, -k_whl, ix_t hl e, in_W, hW, in_D, hD, in_S, hS, az, PySem.sizeLine]
          rfl
end K50

set_option maxHeartbeats 2000000
namespace K50
open Mi
open PySem (Str)
theorem lcut_loop (Fs : Fns) (S : Store) {cs : List Nat} (hl : cs.length ≤ 4000) (hk : ∀ c ∈ cs, c < 1114112) : ∀ (n m i : Nat) (acc : List D) (a b : Option Val), cs.length - i ≤ n → n < m → acc.length ≤ i →
    match lex cs n i acc with
    | .inl p => ∃ x E', whileN (sem Fs gs cutT).ts (semB Fs gs 100000 lB) m [some (.d (.str (tx cs))), some (.ref S.length), some (I (i : Nat)), a, b] (S ++ [.lst acc]) = .ok (.rt (I ((p : Nat) : Int)), E') (S ++ [x])
    | .inr ts => ∃ w x y, whileN (sem Fs gs cutT).ts (semB Fs gs 100000 lB) m [some (.d (.str (tx cs))), some (.ref S.length), some (I (i : Nat)), a, b] (S ++ [.lst acc]) = .ok (.nx, [some (.d (.str (tx cs))), some (.ref S.length), w, x, y]) (S ++ [.lst ts])
  | n, m + 1, i, acc, a, b, h1, h2, h3 => by
    have t0 : ∀ S', (sem Fs gs cutT).ts [some (.d (.str (tx cs))), some (.ref S.length), some (I (i : Nat)), a, b] S' = .ok (decide (i < cs.length)) S' := fun S' => by
      unfold cutT
      by_cases hi : i < cs.length
      · have : (i : Int) < (cs.length : Int) := by omega
        simp [e_kN, e_kB, e_kI, e_kS, e_var, e_glb, e_fnv, e_typ, e_neg, e_bin, e_cmp, e_chn, e_and, e_or, e_not, e_ife, e_tup, e_lst, e_ix, e_slc, e_call, e_bi, e_mt, e_lc, e_dc, e_isE, e_isV, e_attr, e_dyn, e_pm, ra_0, t_isV, t_isE, t_dyn, i_lst, i_tup, i_slc, i_ix, i_bin, k_raise, k_asgP, k_asgX, sp_nil, sp_cons, sx_nil, sx_cons, f_ex, R.bind_ex, t_and, t_or, t_not, t_var, t_cmp, t_chn, t_call, t_bi, t_ix, i_var, i_call, i_bi, i_rng, i_zip, ss_nil, ss_cons, so_none, so_some, ea_nil, ea_cons, an_1, an_2, or_1, or_2, tan_1, tan_2, tor_1, tor_2, tal_0, tal_1, ep_0, ep_1, st_, st2_, tu_nil, tu_c, w_0, w_s, ca_ok, at1, at2_0, at2_1, at4_0, at4_1, at4_2, at4_3, bo_nil, bo_c, io_nil, io_c, is_int, is_intb, is_tup, g_0, g_s, p_d, p_own, p_ref, d_d, d_own, a_d, a_own, a_ref, c_lst, c_dct, pk_nil, pk_cons, sa_nil, sa_cons, ao_nil, ao_cons, b_add, b_sub, b_mul, b_div, b_mod, b_pow, b_cat, n_int, n_bl, cv, c_eq, c_ne, c_lt, c_le, c_gt, c_ge, c_in, c_notIn, eq_int, x_lst, x_tup, x_dct, tr_bl, tr_int, bi_len, bi_lent, bi_abs, bi_int, bi_all, bi_list, bi_listk, bi_listt, bi_tuple, bi_tuplet, io_lst, io_klst, io_tup, k_nil, k_cons, k_asg, k_asgS, k_asgN, k_setix, k_ex, k_ret, k_retN, k_iff, k_whl, k_for, k_brk, k_cont, lo_nil, lo_cons, li_some, as_nm, as_tup, as_0, as_s, f_rt, f_own, f_nx, R.bind_ok, R.of_some, Option.bind_some, Option.map_some, List.length_cons, List.length_nil, List.set_cons_zero, List.set_cons_succ, List.map_cons, List.map_nil, List.replicate, List.cons_append, List.nil_append, if_true, if_false, Bool.false_eq_true, len_t hl, hi]
      · have : ¬ (i : Int) < (cs.length : Int) := by omega
        simp [e_kN, e_kB, e_kI, e_kS, e_var, e_glb, e_fnv, e_typ, e_neg, e_bin, e_cmp, e_chn, e_and, e_or, e_not, e_ife, e_tup, e_lst, e_ix, e_slc, e_call, e_bi, e_mt, e_lc, e_dc, e_isE, e_isV, e_attr, e_dyn, e_pm, ra_0, t_isV, t_isE, t_dyn, i_lst, i_tup, i_slc, i_ix, i_bin, k_raise, k_asgP, k_asgX, sp_nil, sp_cons, sx_nil, sx_cons, f_ex, R.bind_ex, t_and, t_or, t_not, t_var, t_cmp, t_chn, t_call, t_bi, t_ix, i_var, i_call, i_bi, i_rng, i_zip, ss_nil, ss_cons, so_none, so_some, ea_nil, ea_cons, an_1, an_2, or_1, or_2, tan_1, tan_2, tor_1, tor_2, tal_0, tal_1, ep_0, ep_1, st_, st2_, tu_nil, tu_c, w_0, w_s, ca_ok, at1, at2_0, at2_1, at4_0, at4_1, at4_2, at4_3, bo_nil, bo_c, io_nil, io_c, is_int, is_intb, is_tup, g_0, g_s, p_d, p_own, p_ref, d_d, d_own, a_d, a_own, a_ref, c_lst, c_dct, pk_nil, pk_cons, sa_nil, sa_cons, ao_nil, ao_cons, b_add, b_sub, b_mul, b_div, b_mod, b_pow, b_cat, n_int, n_bl, cv, c_eq, c_ne, c_lt, c_le, c_gt, c_ge, c_in, c_notIn, eq_int, x_lst, x_tup, x_dct, tr_bl, tr_int, bi_len, bi_lent, bi_abs, bi_int, bi_all, bi_list, bi_listk, bi_listt, bi_tuple, bi_tuplet, io_lst, io_klst, io_tup, k_nil, k_cons, k_asg, k_asgS, k_asgN, k_setix, k_ex, k_ret, k_retN, k_iff, k_whl, k_for, k_brk, k_cont, lo_nil, lo_cons, li_some, as_nm, as_tup, as_0, as_s, f_rt, f_own, f_nx, R.bind_ok, R.of_some, Option.bind_some, Option.map_some, List.length_cons, List.length_nil, List.set_cons_zero, List.set_cons_succ, List.map_cons, List.map_nil, List.replicate, List.cons_append, List.nil_append, if_true, if_false, Bool.false_eq_true, len_t hl, hi]
    have stop : cs.length ≤ i → ∃ w x y, whileN (sem Fs gs cutT).ts (semB Fs gs 100000 lB) (m + 1) [some (.d (.str (tx cs))), some (.ref S.length), some (I (i : Nat)), a, b] (S ++ [.lst acc]) = .ok (.nx, [some (.d (.str (tx cs))), some (.ref S.length), w, x, y]) (S ++ [.lst acc]) := fun hi => by
      refine ⟨some (I (i : Nat)), a, b, ?_⟩
      rw [wh_s, t0, decide_eq_false (by omega)]
      rfl
    cases n with
    | zero => exact stop (by omega)
    | succ n =>
      unfold lex
      cases e : cs[i]? with
      | none => exact stop (List.getElem?_eq_none_iff.mp e)
      | some c0 =>
        have hi := (List.getElem?_eq_some_iff.mp e).1
        rw [wh_s, t0, decide_eq_true hi]
        simp only [R.bind_ok, if_true]
        cases hW : isW c0 with
        | true =>
          have b0 : semB Fs gs 100000 lB [some (.d (.str (tx cs))), some (.ref S.length), some (I (i : Nat)), a, b] (S ++ [.lst acc]) = .ok (.ct, [some (.d (.str (tx cs))), some (.ref S.length), some (I ((i + 1 : Nat) : Int)), some (.d (sg c0)), some (I ((i + 1 : Nat) : Int))]) (S ++ [.lst acc]) := by
            unfold lB
            simp [e_kN, e_kB, e_kI, e_kS, e_var, e_glb, e_fnv, e_typ, e_neg, e_bin, e_cmp, e_chn, e_and, e_or, e_not, e_ife, e_tup, e_lst, e_ix, e_slc, e_call, e_bi, e_mt, e_lc, e_dc, e_isE, e_isV, e_attr, e_dyn, e_pm, ra_0, t_isV, t_isE, t_dyn, i_lst, i_tup, i_slc, i_ix, i_bin, k_raise, k_asgP, k_asgX, sp_nil, sp_cons, sx_nil, sx_cons, f_ex, R.bind_ex, t_and, t_or, t_not, t_var, t_cmp, t_chn, t_call, t_bi, t_ix, i_var, i_call, i_bi, i_rng, i_zip, ss_nil, ss_cons, so_none, so_some, ea_nil, ea_cons, an_1, an_2, or_1, or_2, tan_1, tan_2, tor_1, tor_2, tal_0, tal_1, ep_0, ep_1, st_, st2_, tu_nil, tu_c, w_0, w_s, ca_ok, at1, at2_0, at2_1, at4_0, at4_1, at4_2, at4_3, bo_nil, bo_c, io_nil, io_c, is_int, is_intb, is_tup, g_0, g_s, p_d, p_own, p_ref, d_d, d_own, a_d, a_own, a_ref, c_lst, c_dct, pk_nil, pk_cons, sa_nil, sa_cons, ao_nil, ao_cons, b_add, b_sub, b_mul, b_div, b_mod, b_pow, b_cat, n_int, n_bl, cv, c_eq, c_ne, c_lt, c_le, c_gt, c_ge, c_in, c_notIn, eq_int, x_lst, x_tup, x_dct, tr_bl, tr_int, bi_len, bi_lent, bi_abs, bi_int, bi_all, bi_list, bi_listk, bi_listt, bi_tuple, bi_tuplet, io_lst, io_klst, io_tup, k_nil, k_cons, k_asg, k_asgS, k_asgN, k_setix, k_ex, k_ret, k_retN, k_iff, k_whl, k_for, k_brk, k_cont, lo_nil, lo_cons, li_some, as_nm, as_tup, as_0, as_s, f_rt, f_own, f_nx, R.bind_ok, R.of_some, Option.bind_some, Option.map_some, List.length_cons, List.length_nil, List.set_cons_zero, List.set_cons_succ, List.map_cons, List.map_nil, List.replicate, List.cons_append, List.nil_append, if_true, if_false, Bool.false_eq_true, ix_t hl e, in_W, hW, PySem.sizeLine]
          rw [b0]
          simp only [R.bind_ok, if_true]
          exact lcut_loop Fs S hl hk n m (i + 1) acc _ _ (by omega) (by omega) (by omega)
        | false =>
          simp only [Bool.false_eq_true, if_false]
          have tr := lbody Fs S hl hk e acc h3 a b hW
          cases q : tokAt cs i c0 with
          | inl p =>
            rw [q] at tr
            obtain ⟨E', tr⟩ := tr
            refine ⟨.lst acc, E', ?_⟩
            rw [tr]
            rfl
          | inr y =>
            obtain ⟨kd, v, j⟩ := y
            rw [q] at tr
            have gt := tok_gt e q
            rw [tr]
            simp only [R.bind_ok]
            exact lcut_loop Fs S hl hk n m j (acc ++ [.tup [kd, v, .int ((i : Nat) : Int)]]) _ _ (by omega) (by omega) (by simp; omega)
theorem lcut_run (k : Nat) (S : Store) {cs : List Nat} (hl : cs.length ≤ 4000) (hk : ∀ c ∈ cs, c < 1114112) : C (k + 1) 12 [.d (.str (tx cs))] S = match lex cs cs.length 0 [] with
    | .inl p => .ok (I ((p : Nat) : Int)) S
    | .inr ts => .ok (.own (.lst ts)) S := by
  rw [call_d (fd := ⟨1, 5, b12, false⟩) rfl, r_run _ _ _ _ _ _ rfl]
  have e := lcut_loop (C k) S hl hk cs.length 100000 0 [] none none (by omega) (by omega) (by simp)
  show fin S.length (semB (C k) gs 100000 b12 [some (.d (.str (tx cs))), none, none, none, none] S) = _
  have p0 : semS (C k) gs 100000 (.asgP 1 (.lst []) 2 (.kI 0)) [some (.d (.str (tx cs))), none, none, none, none] S = .ok (.nx, [some (.d (.str (tx cs))), some (.ref S.length), some (I 0), none, none]) (S ++ [.lst []]) := by
    rw [k_asgP]
    simp [e_kN, e_kB, e_kI, e_kS, e_var, e_glb, e_fnv, e_typ, e_neg, e_bin, e_cmp, e_chn, e_and, e_or, e_not, e_ife, e_tup, e_lst, e_ix, e_slc, e_call, e_bi, e_mt, e_lc, e_dc, e_isE, e_isV, e_attr, e_dyn, e_pm, ra_0, t_isV, t_isE, t_dyn, i_lst, i_tup, i_slc, i_ix, i_bin, k_raise, k_asgP, k_asgX, sp_nil, sp_cons, sx_nil, sx_cons, f_ex, R.bind_ex, t_and, t_or, t_not, t_var, t_cmp, t_chn, t_call, t_bi, t_ix, i_var, i_call, i_bi, i_rng, i_zip, ss_nil, ss_cons, so_none, so_some, ea_nil, ea_cons, an_1, an_2, or_1, or_2, tan_1, tan_2, tor_1, tor_2, tal_0, tal_1, ep_0, ep_1, st_, st2_, tu_nil, tu_c, w_0, w_s, ca_ok, at1, at2_0, at2_1, at4_0, at4_1, at4_2, at4_3, bo_nil, bo_c, io_nil, io_c, is_int, is_intb, is_tup, g_0, g_s, p_d, p_own, p_ref, d_d, d_own, a_d, a_own, a_ref, c_lst, c_dct, pk_nil, pk_cons, sa_nil, sa_cons, ao_nil, ao_cons, b_add, b_sub, b_mul, b_div, b_mod, b_pow, b_cat, n_int, n_bl, cv, c_eq, c_ne, c_lt, c_le, c_gt, c_ge, c_in, c_notIn, eq_int, x_lst, x_tup, x_dct, tr_bl, tr_int, bi_len, bi_lent, bi_abs, bi_int, bi_all, bi_list, bi_listk, bi_listt, bi_tuple, bi_tuplet, io_lst, io_klst, io_tup, k_nil, k_cons, k_asg, k_asgS, k_asgN, k_setix, k_ex, k_ret, k_retN, k_iff, k_whl, k_for, k_brk, k_cont, lo_nil, lo_cons, li_some, as_nm, as_tup, as_0, as_s, f_rt, f_own, f_nx, R.bind_ok, R.of_some, Option.bind_some, Option.map_some, List.length_cons, List.length_nil, List.set_cons_zero, List.set_cons_succ, List.map_cons, List.map_nil, List.replicate, List.cons_append, List.nil_append, if_true, if_false, Bool.false_eq_true, PySem.sizeLine]
  rw [b12_eq, k_cons, p0]
  simp only [R.bind_ok]
  cases q : lex cs cs.length 0 [] with
  | inl p =>
    rw [q] at e
    obtain ⟨x, E', e⟩ := e
    have e' : semS (C k) gs 100000 (.whl cutT lB) [some (.d (.str (tx cs))), some (.ref S.length), some (I 0), none, none] (S ++ [.lst []]) = .ok (.rt (I ((p : Nat) : Int)), E') (S ++ [x]) := e
    rw [k_cons, e']
    show R.ok _ ((S ++ [x]).take S.length) = _
    rw [List.take_left]
  | inr ts =>
    rw [q] at e
    obtain ⟨w, x, y, e⟩ := e
    have e' : semS (C k) gs 100000 (.whl cutT lB) [some (.d (.str (tx cs))), some (.ref S.length), some (I 0), none, none] (S ++ [.lst []]) = .ok (.nx, [some (.d (.str (tx cs))), some (.ref S.length), w, x, y]) (S ++ [.lst ts]) := e
    rw [k_cons, e']
    simp only [R.bind_ok]
    show fin S.length (.ok (.rt (.ref S.length), _) (S ++ [.lst ts])) = _
    unfold fin
    simp only []
    rw [if_neg (Nat.lt_irrefl _), last_get]
    simp only []
    rw [List.take_left]
/-! ### the program's answer -/
theorem isi_str (x : Str) : biD .isinst [.str x, .ty "str"] = some (.d (.bl true)) := rfl
theorem check_run (k : Nat) (S : Store) {cs : List Nat} (hl : cs.length ≤ 4000) : C (k + 1) 1 [.d (.str (tx cs))] S = .ok (.d .non) S := by
  rw [call_d (fd := ⟨1, 1, b1, false⟩) rfl, r_run _ _ _ _ _ _ rfl]
  have : ¬ ((4000 : Int) < (cs.length : Int)) := by omega
  simp [b1, e_kN, e_kB, e_kI, e_kS, e_var, e_glb, e_fnv, e_typ, e_neg, e_bin, e_cmp, e_chn, e_and, e_or, e_not, e_ife, e_tup, e_lst, e_ix, e_slc, e_call, e_bi, e_mt, e_lc, e_dc, e_isE, e_isV, e_attr, e_dyn, e_pm, ra_0, t_isV, t_isE, t_dyn, i_lst, i_tup, i_slc, i_ix, i_bin, k_raise, k_asgP, k_asgX, sp_nil, sp_cons, sx_nil, sx_cons, f_ex, R.bind_ex, t_and, t_or, t_not, t_var, t_cmp, t_chn, t_call, t_bi, t_ix, i_var, i_call, i_bi, i_rng, i_zip, ss_nil, ss_cons, so_none, so_some, ea_nil, ea_cons, an_1, an_2, or_1, or_2, tan_1, tan_2, tor_1, tor_2, tal_0, tal_1, ep_0, ep_1, st_, st2_, tu_nil, tu_c, w_0, w_s, ca_ok, at1, at2_0, at2_1, at4_0, at4_1, at4_2, at4_3, bo_nil, bo_c, io_nil, io_c, is_int, is_intb, is_tup, g_0, g_s, p_d, p_own, p_ref, d_d, d_own, a_d, a_own, a_ref, c_lst, c_dct, pk_nil, pk_cons, sa_nil, sa_cons, ao_nil, ao_cons, b_add, b_sub, b_mul, b_div, b_mod, b_pow, b_cat, n_int, n_bl, cv, c_eq, c_ne, c_lt, c_le, c_gt, c_ge, c_in, c_notIn, eq_int, x_lst, x_tup, x_dct, tr_bl, tr_int, bi_len, bi_lent, bi_abs, bi_int, bi_all, bi_list, bi_listk, bi_listt, bi_tuple, bi_tuplet, io_lst, io_klst, io_tup, k_nil, k_cons, k_asg, k_asgS, k_asgN, k_setix, k_ex, k_ret, k_retN, k_iff, k_whl, k_for, k_brk, k_cont, lo_nil, lo_cons, li_some, as_nm, as_tup, as_0, as_s, f_rt, f_own, f_nx, R.bind_ok, R.of_some, Option.bind_some, Option.map_some, List.length_cons, List.length_nil, List.set_cons_zero, List.set_cons_succ, List.map_cons, List.map_nil, List.replicate, List.cons_append, List.nil_append, if_true, if_false, Bool.false_eq_true, isi_str, len_t hl, g_2', this]
theorem tokens_run (k : Nat) (S : Store) {cs : List Nat} (hl : cs.length ≤ 4000) : C (k + 4) 0 [.d (.str (tx cs))] S = match lex cs cs.length 0 [] with
    | .inl p => .ex 1 (.int ((p : Nat) : Int)) S
    | .inr ts => .ok (.d (.tup ts)) S := by
  rw [call_d (fd := ⟨1, 1, b0, false⟩) rfl, r_run _ _ _ _ _ _ rfl]
  have c1 := check_run (k + 2) S hl
  have c2 := cut_run k S hl
  cases q : lex cs cs.length 0 [] with
  | inl p => rw [q] at c2; simp [b0, e_kN, e_kB, e_kI, e_kS, e_var, e_glb, e_fnv, e_typ, e_neg, e_bin, e_cmp, e_chn, e_and, e_or, e_not, e_ife, e_tup, e_lst, e_ix, e_slc, e_call, e_bi, e_mt, e_lc, e_dc, e_isE, e_isV, e_attr, e_dyn, e_pm, ra_0, t_isV, t_isE, t_dyn, i_lst, i_tup, i_slc, i_ix, i_bin, k_raise, k_asgP, k_asgX, sp_nil, sp_cons, sx_nil, sx_cons, f_ex, R.bind_ex, t_and, t_or, t_not, t_var, t_cmp, t_chn, t_call, t_bi, t_ix, i_var, i_call, i_bi, i_rng, i_zip, ss_nil, ss_cons, so_none, so_some, ea_nil, ea_cons, an_1, an_2, or_1, or_2, tan_1, tan_2, tor_1, tor_2, tal_0, tal_1, ep_0, ep_1, st_, st2_, tu_nil, tu_c, w_0, w_s, ca_ok, at1, at2_0, at2_1, at4_0, at4_1, at4_2, at4_3, bo_nil, bo_c, io_nil, io_c, is_int, is_intb, is_tup, g_0, g_s, p_d, p_own, p_ref, d_d, d_own, a_d, a_own, a_ref, c_lst, c_dct, pk_nil, pk_cons, sa_nil, sa_cons, ao_nil, ao_cons, b_add, b_sub, b_mul, b_div, b_mod, b_pow, b_cat, n_int, n_bl, cv, c_eq, c_ne, c_lt, c_le, c_gt, c_ge, c_in, c_notIn, eq_int, x_lst, x_tup, x_dct, tr_bl, tr_int, bi_len, bi_lent, bi_abs, bi_int, bi_all, bi_list, bi_listk, bi_listt, bi_tuple, bi_tuplet, io_lst, io_klst, io_tup, k_nil, k_cons, k_asg, k_asgS, k_asgN, k_setix, k_ex, k_ret, k_retN, k_iff, k_whl, k_for, k_brk, k_cont, lo_nil, lo_cons, li_some, as_nm, as_tup, as_0, as_s, f_rt, f_own, f_nx, R.bind_ok, R.of_some, Option.bind_some, Option.map_some, List.length_cons, List.length_nil, List.set_cons_zero, List.set_cons_succ, List.map_cons, List.map_nil, List.replicate, List.cons_append, List.nil_append, if_true, if_false, Bool.false_eq_true, c1, c2]
  | inr ts => rw [q] at c2; simp [b0, e_kN, e_kB, e_kI, e_kS, e_var, e_glb, e_fnv, e_typ, e_neg, e_bin, e_cmp, e_chn, e_and, e_or, e_not, e_ife, e_tup, e_lst, e_ix, e_slc, e_call, e_bi, e_mt, e_lc, e_dc, e_isE, e_isV, e_attr, e_dyn, e_pm, ra_0, t_isV, t_isE, t_dyn, i_lst, i_tup, i_slc, i_ix, i_bin, k_raise, k_asgP, k_asgX, sp_nil, sp_cons, sx_nil, sx_cons, f_ex, R.bind_ex, t_and, t_or, t_not, t_var, t_cmp, t_chn, t_call, t_bi, t_ix, i_var, i_call, i_bi, i_rng, i_zip, ss_nil, ss_cons, so_none, so_some, ea_nil, ea_cons, an_1, an_2, or_1, or_2, tan_1, tan_2, tor_1, tor_2, tal_0, tal_1, ep_0, ep_1, st_, st2_, tu_nil, tu_c, w_0, w_s, ca_ok, at1, at2_0, at2_1, at4_0, at4_1, at4_2, at4_3, bo_nil, bo_c, io_nil, io_c, is_int, is_intb, is_tup, g_0, g_s, p_d, p_own, p_ref, d_d, d_own, a_d, a_own, a_ref, c_lst, c_dct, pk_nil, pk_cons, sa_nil, sa_cons, ao_nil, ao_cons, b_add, b_sub, b_mul, b_div, b_mod, b_pow, b_cat, n_int, n_bl, cv, c_eq, c_ne, c_lt, c_le, c_gt, c_ge, c_in, c_notIn, eq_int, x_lst, x_tup, x_dct, tr_bl, tr_int, bi_len, bi_lent, bi_abs, bi_int, bi_all, bi_list, bi_listk, bi_listt, bi_tuple, bi_tuplet, io_lst, io_klst, io_tup, k_nil, k_cons, k_asg, k_asgS, k_asgN, k_setix, k_ex, k_ret, k_retN, k_iff, k_whl, k_for, k_brk, k_cont, lo_nil, lo_cons, li_some, as_nm, as_tup, as_0, as_s, f_rt, f_own, f_nx, R.bind_ok, R.of_some, Option.bind_some, Option.map_some, List.length_cons, List.length_nil, List.set_cons_zero, List.set_cons_succ, List.map_cons, List.map_nil, List.replicate, List.cons_append, List.nil_append, if_true, if_false, Bool.false_eq_true, c1, c2]
theorem cnt_k1 : pmD .lcount (.lst [.bl false, .bl false, .bl false, .bl false, .bl true]) [.bl true] = some (I 1) := rfl
theorem cnt_k2 : pmD .lcount (.lst [.bl true, .bl false, .bl false, .bl false, .bl false]) [.bl true] = some (I 1) := rfl
theorem idx_k2 : pmD .lindex (.lst [.bl true, .bl false, .bl false, .bl false, .bl false]) [.bl true] = some (I 0) := rfl
theorem rc_l (xs : List D) : recvP .lcount (.lst xs) = some (.lst xs) := rfl
theorem ri_l (xs : List D) : recvP .lindex (.lst xs) = some (.lst xs) := rfl
theorem word_1 (n : Nat) (S : Store) (p : Nat) (h : p < 5000) : C (n + 1) 9 [.err 1 (.int ((p : Nat) : Int))] S = .ok (.d (.str (("text " : Str) ++ (toString ((p : Nat) : Int) : Str)))) S := by
  rw [call_at (fd := ⟨1, 3, b9, true⟩) rfl _ _ rfl, r_run _ _ _ _ _ _ rfl]
  have a4 : ∀ a b c d e : D, L2.atI [a, b, c, d, e] 4 = some e := fun _ _ _ _ _ => rfl
  have lg : ((p : Nat) : Int).natAbs.log2 < 1920 := by
    rw [Int.natAbs_natCast]
    refine Nat.lt_of_lt_of_le (m := 13) ?_ (by omega)
    by_cases z : p = 0
    · subst z; decide
    · exact (Nat.log2_lt z).mpr (by omega)
  have sb : biD .str [.int ((p : Nat) : Int)] = some (.d (.str (toString ((p : Nat) : Int) : Str))) := by
    show (if ((p : Nat) : Int).natAbs.log2 < 1920 then some (Val.d (.str (toString ((p : Nat) : Int) : Str))) else none) = _
    rw [if_pos lg]
  have ln : (("text " : Str).length + (toString ((p : Nat) : Int) : Str).length ≤ PySem.sizeLine) := by
    have e := PySem.int_text_length_le (k := 1920) (by decide) lg
    have e2 : (toString ((p : Nat) : Int) : Str).length ≤ 1921 := by
      show (Str.ofString (toString ((p : Nat) : Int))).length ≤ _
      rw [PySem.ofString_length]
      exact e
    have e3 : ("text " : Str).length = 5 := by decide
    have e4 : PySem.sizeLine = 16777216 := rfl
    omega
  generalize (Str.ofString (toString ((p : Nat) : Int))) = t at sb ln ⊢
  have ad : binD .Add (.str "text ") (.str t) = some (.d (.str (("text " : Str) ++ t))) := by
    show (if ("text " : Str).length + t.length ≤ PySem.sizeLine then some (Val.d (.str (("text " : Str) ++ t))) else none) = _
    rw [if_pos ln]
  simp [b9, e_kN, e_kB, e_kI, e_kS, e_var, e_glb, e_fnv, e_typ, e_neg, e_bin, e_cmp, e_chn, e_and, e_or, e_not, e_ife, e_tup, e_lst, e_ix, e_slc, e_call, e_bi, e_mt, e_lc, e_dc, e_isE, e_isV, e_attr, e_dyn, e_pm, ra_0, t_isV, t_isE, t_dyn, i_lst, i_tup, i_slc, i_ix, i_bin, k_raise, k_asgP, k_asgX, sp_nil, sp_cons, sx_nil, sx_cons, f_ex, R.bind_ex, t_and, t_or, t_not, t_var, t_cmp, t_chn, t_call, t_bi, t_ix, i_var, i_call, i_bi, i_rng, i_zip, ss_nil, ss_cons, so_none, so_some, ea_nil, ea_cons, an_1, an_2, or_1, or_2, tan_1, tan_2, tor_1, tor_2, tal_0, tal_1, ep_0, ep_1, st_, st2_, tu_nil, tu_c, w_0, w_s, ca_ok, at1, at2_0, at2_1, at4_0, at4_1, at4_2, at4_3, bo_nil, bo_c, io_nil, io_c, is_int, is_intb, is_tup, g_0, g_s, p_d, p_own, p_ref, d_d, d_own, a_d, a_own, a_ref, c_lst, c_dct, pk_nil, pk_cons, sa_nil, sa_cons, ao_nil, ao_cons, b_add, b_sub, b_mul, b_div, b_mod, b_pow, b_cat, n_int, n_bl, cv, c_eq, c_ne, c_lt, c_le, c_gt, c_ge, c_in, c_notIn, eq_int, x_lst, x_tup, x_dct, tr_bl, tr_int, bi_len, bi_lent, bi_abs, bi_int, bi_all, bi_list, bi_listk, bi_listt, bi_tuple, bi_tuplet, io_lst, io_klst, io_tup, k_nil, k_cons, k_asg, k_asgS, k_asgN, k_setix, k_ex, k_ret, k_retN, k_iff, k_whl, k_for, k_brk, k_cont, lo_nil, lo_cons, li_some, as_nm, as_tup, as_0, as_s, f_rt, f_own, f_nx, R.bind_ok, R.of_some, Option.bind_some, Option.map_some, List.length_cons, List.length_nil, List.set_cons_zero, List.set_cons_succ, List.map_cons, List.map_nil, List.replicate, List.cons_append, List.nil_append, if_true, if_false, Bool.false_eq_true, PySem.sizeLine, cnt_k1, rc_l, a4, sb, ad]
theorem word_2 (n : Nat) (S : Store) : C (n + 1) 9 [.err 2 (.str "text")] S = .ok (.d (.str "argument text")) S := by
  rw [call_at (fd := ⟨1, 3, b9, true⟩) rfl _ _ rfl, r_run _ _ _ _ _ _ rfl]
  have a4 : ∀ a b c d e : D, L2.atI [a, b, c, d, e] 4 = some e := fun _ _ _ _ _ => rfl
  have a0 : ∀ a b c d : D, L2.atI [a, b, c, d] 0 = some a := fun _ _ _ _ => rfl
  have ad : binD .Add (.str "argument ") (.str "text") = some (.d (.str "argument text")) := by
    show (if ("argument " : Str).length + ("text" : Str).length ≤ PySem.sizeLine then some (Val.d (.str (("argument " : Str) ++ ("text" : Str)))) else none) = _
    rw [if_pos (by decide)]
    have : (("argument " : Str) ++ ("text" : Str)) = "argument text" := by decide
    rw [this]
  simp [b9, e_kN, e_kB, e_kI, e_kS, e_var, e_glb, e_fnv, e_typ, e_neg, e_bin, e_cmp, e_chn, e_and, e_or, e_not, e_ife, e_tup, e_lst, e_ix, e_slc, e_call, e_bi, e_mt, e_lc, e_dc, e_isE, e_isV, e_attr, e_dyn, e_pm, ra_0, t_isV, t_isE, t_dyn, i_lst, i_tup, i_slc, i_ix, i_bin, k_raise, k_asgP, k_asgX, sp_nil, sp_cons, sx_nil, sx_cons, f_ex, R.bind_ex, t_and, t_or, t_not, t_var, t_cmp, t_chn, t_call, t_bi, t_ix, i_var, i_call, i_bi, i_rng, i_zip, ss_nil, ss_cons, so_none, so_some, ea_nil, ea_cons, an_1, an_2, or_1, or_2, tan_1, tan_2, tor_1, tor_2, tal_0, tal_1, ep_0, ep_1, st_, st2_, tu_nil, tu_c, w_0, w_s, ca_ok, at1, at2_0, at2_1, at4_0, at4_1, at4_2, at4_3, bo_nil, bo_c, io_nil, io_c, is_int, is_intb, is_tup, g_0, g_s, p_d, p_own, p_ref, d_d, d_own, a_d, a_own, a_ref, c_lst, c_dct, pk_nil, pk_cons, sa_nil, sa_cons, ao_nil, ao_cons, b_add, b_sub, b_mul, b_div, b_mod, b_pow, b_cat, n_int, n_bl, cv, c_eq, c_ne, c_lt, c_le, c_gt, c_ge, c_in, c_notIn, eq_int, x_lst, x_tup, x_dct, tr_bl, tr_int, bi_len, bi_lent, bi_abs, bi_int, bi_all, bi_list, bi_listk, bi_listt, bi_tuple, bi_tuplet, io_lst, io_klst, io_tup, k_nil, k_cons, k_asg, k_asgS, k_asgN, k_setix, k_ex, k_ret, k_retN, k_iff, k_whl, k_for, k_brk, k_cont, lo_nil, lo_cons, li_some, as_nm, as_tup, as_0, as_s, f_rt, f_own, f_nx, R.bind_ok, R.of_some, Option.bind_some, Option.map_some, List.length_cons, List.length_nil, List.set_cons_zero, List.set_cons_succ, List.map_cons, List.map_nil, List.replicate, List.cons_append, List.nil_append, if_true, if_false, Bool.false_eq_true, PySem.sizeLine, cnt_k2, idx_k2, rc_l, ri_l, a4, a0, ad]
/-- how the law asks -/
theorem called_run (k : Nat) (S : Store) (x : D) : C (k + 1) 10 [.d (.fn 0), .d (.lst [x])] S = fin S.length ((C k 0 [.d x] S).bind fun v S1 => .ok (.rt v, [some (.d (.fn 0)), some (.d (.lst [x]))]) S1) := by
  rw [call_d (fd := ⟨2, 2, b10, false⟩) rfl, r_run _ _ _ _ _ _ rfl]
  simp [b10, e_kN, e_kB, e_kI, e_kS, e_var, e_glb, e_fnv, e_typ, e_neg, e_bin, e_cmp, e_chn, e_and, e_or, e_not, e_ife, e_tup, e_lst, e_ix, e_slc, e_call, e_bi, e_mt, e_lc, e_dc, e_isE, e_isV, e_attr, e_dyn, e_pm, ra_0, t_isV, t_isE, t_dyn, i_lst, i_tup, i_slc, i_ix, i_bin, k_raise, k_asgP, k_asgX, sp_nil, sp_cons, sx_nil, sx_cons, f_ex, R.bind_ex, t_and, t_or, t_not, t_var, t_cmp, t_chn, t_call, t_bi, t_ix, i_var, i_call, i_bi, i_rng, i_zip, ss_nil, ss_cons, so_none, so_some, ea_nil, ea_cons, an_1, an_2, or_1, or_2, tan_1, tan_2, tor_1, tor_2, tal_0, tal_1, ep_0, ep_1, st_, st2_, tu_nil, tu_c, w_0, w_s, ca_ok, at1, at2_0, at2_1, at4_0, at4_1, at4_2, at4_3, bo_nil, bo_c, io_nil, io_c, is_int, is_intb, is_tup, g_0, g_s, p_d, p_own, p_ref, d_d, d_own, a_d, a_own, a_ref, c_lst, c_dct, pk_nil, pk_cons, sa_nil, sa_cons, ao_nil, ao_cons, b_add, b_sub, b_mul, b_div, b_mod, b_pow, b_cat, n_int, n_bl, cv, c_eq, c_ne, c_lt, c_le, c_gt, c_ge, c_in, c_notIn, eq_int, x_lst, x_tup, x_dct, tr_bl, tr_int, bi_len, bi_lent, bi_abs, bi_int, bi_all, bi_list, bi_listk, bi_listt, bi_tuple, bi_tuplet, io_lst, io_klst, io_tup, k_nil, k_cons, k_asg, k_asgS, k_asgN, k_setix, k_ex, k_ret, k_retN, k_iff, k_whl, k_for, k_brk, k_cont, lo_nil, lo_cons, li_some, as_nm, as_tup, as_0, as_s, f_rt, f_own, f_nx, R.bind_ok, R.of_some, Option.bind_some, Option.map_some, List.length_cons, List.length_nil, List.set_cons_zero, List.set_cons_succ, List.map_cons, List.map_nil, List.replicate, List.cons_append, List.nil_append, if_true, if_false, Bool.false_eq_true]
  cases C k 0 [.d x] S with
  | ok v S1 => rfl
  | ex c a S1 => rfl
  | no => rfl
theorem asked_ok (k : Nat) (S : Store) (x y : D) (h : C (k + 1) 0 [.d x] S = .ok (.d y) S) : C (k + 3) 11 [.d (.fn 0), .d (.lst [x])] S = .ok (.own (.lst [y])) S := by
  rw [call_d (fd := ⟨2, 3, b11, false⟩) rfl, r_run _ _ _ _ _ _ rfl]
  have c := called_run (k + 1) S x
  rw [h] at c
  simp only [R.bind_ok, f_rt, List.take_length] at c
  have b : semB (C (k + 2)) gs 100000 [.ret (.lst [(.call 10 [(.var 0), (.var 1)])])] [some (.d (.fn 0)), some (.d (.lst [x])), none] S = .ok (.rt (.own (.lst [y])), [some (.d (.fn 0)), some (.d (.lst [x])), none]) S := by
    simp [e_kN, e_kB, e_kI, e_kS, e_var, e_glb, e_fnv, e_typ, e_neg, e_bin, e_cmp, e_chn, e_and, e_or, e_not, e_ife, e_tup, e_lst, e_ix, e_slc, e_call, e_bi, e_mt, e_lc, e_dc, e_isE, e_isV, e_attr, e_dyn, e_pm, ra_0, t_isV, t_isE, t_dyn, i_lst, i_tup, i_slc, i_ix, i_bin, k_raise, k_asgP, k_asgX, sp_nil, sp_cons, sx_nil, sx_cons, f_ex, R.bind_ex, t_and, t_or, t_not, t_var, t_cmp, t_chn, t_call, t_bi, t_ix, i_var, i_call, i_bi, i_rng, i_zip, ss_nil, ss_cons, so_none, so_some, ea_nil, ea_cons, an_1, an_2, or_1, or_2, tan_1, tan_2, tor_1, tor_2, tal_0, tal_1, ep_0, ep_1, st_, st2_, tu_nil, tu_c, w_0, w_s, ca_ok, at1, at2_0, at2_1, at4_0, at4_1, at4_2, at4_3, bo_nil, bo_c, io_nil, io_c, is_int, is_intb, is_tup, g_0, g_s, p_d, p_own, p_ref, d_d, d_own, a_d, a_own, a_ref, c_lst, c_dct, pk_nil, pk_cons, sa_nil, sa_cons, ao_nil, ao_cons, b_add, b_sub, b_mul, b_div, b_mod, b_pow, b_cat, n_int, n_bl, cv, c_eq, c_ne, c_lt, c_le, c_gt, c_ge, c_in, c_notIn, eq_int, x_lst, x_tup, x_dct, tr_bl, tr_int, bi_len, bi_lent, bi_abs, bi_int, bi_all, bi_list, bi_listk, bi_listt, bi_tuple, bi_tuplet, io_lst, io_klst, io_tup, k_nil, k_cons, k_asg, k_asgS, k_asgN, k_setix, k_ex, k_ret, k_retN, k_iff, k_whl, k_for, k_brk, k_cont, lo_nil, lo_cons, li_some, as_nm, as_tup, as_0, as_s, f_rt, f_own, f_nx, R.bind_ok, R.of_some, Option.bind_some, Option.map_some, List.length_cons, List.length_nil, List.set_cons_zero, List.set_cons_succ, List.map_cons, List.map_nil, List.replicate, List.cons_append, List.nil_append, if_true, if_false, Bool.false_eq_true, c, PySem.sizeLine]
  show fin S.length (semB (C (k + 2)) gs 100000 b11 [some (.d (.fn 0)), some (.d (.lst [x])), none] S) = _
  unfold b11
  rw [k_cons, k_tryF, b]
  simp [e_kN, e_kB, e_kI, e_kS, e_var, e_glb, e_fnv, e_typ, e_neg, e_bin, e_cmp, e_chn, e_and, e_or, e_not, e_ife, e_tup, e_lst, e_ix, e_slc, e_call, e_bi, e_mt, e_lc, e_dc, e_isE, e_isV, e_attr, e_dyn, e_pm, ra_0, t_isV, t_isE, t_dyn, i_lst, i_tup, i_slc, i_ix, i_bin, k_raise, k_asgP, k_asgX, sp_nil, sp_cons, sx_nil, sx_cons, f_ex, R.bind_ex, t_and, t_or, t_not, t_var, t_cmp, t_chn, t_call, t_bi, t_ix, i_var, i_call, i_bi, i_rng, i_zip, ss_nil, ss_cons, so_none, so_some, ea_nil, ea_cons, an_1, an_2, or_1, or_2, tan_1, tan_2, tor_1, tor_2, tal_0, tal_1, ep_0, ep_1, st_, st2_, tu_nil, tu_c, w_0, w_s, ca_ok, at1, at2_0, at2_1, at4_0, at4_1, at4_2, at4_3, bo_nil, bo_c, io_nil, io_c, is_int, is_intb, is_tup, g_0, g_s, p_d, p_own, p_ref, d_d, d_own, a_d, a_own, a_ref, c_lst, c_dct, pk_nil, pk_cons, sa_nil, sa_cons, ao_nil, ao_cons, b_add, b_sub, b_mul, b_div, b_mod, b_pow, b_cat, n_int, n_bl, cv, c_eq, c_ne, c_lt, c_le, c_gt, c_ge, c_in, c_notIn, eq_int, x_lst, x_tup, x_dct, tr_bl, tr_int, bi_len, bi_lent, bi_abs, bi_int, bi_all, bi_list, bi_listk, bi_listt, bi_tuple, bi_tuplet, io_lst, io_klst, io_tup, k_nil, k_cons, k_asg, k_asgS, k_asgN, k_setix, k_ex, k_ret, k_retN, k_iff, k_whl, k_for, k_brk, k_cont, lo_nil, lo_cons, li_some, as_nm, as_tup, as_0, as_s, f_rt, f_own, f_nx, R.bind_ok, R.of_some, Option.bind_some, Option.map_some, List.length_cons, List.length_nil, List.set_cons_zero, List.set_cons_succ, List.map_cons, List.map_nil, List.replicate, List.cons_append, List.nil_append, if_true, if_false, Bool.false_eq_true]
theorem asked_ex (k : Nat) (S : Store) (x a : D) (w : Str) (c : Nat) (hc : c < 6) (h : C (k + 1) 0 [.d x] S = .ex c a S) (hw : C (k + 2) 9 [.err c a] S = .ok (.d (.str w)) S) : C (k + 3) 11 [.d (.fn 0), .d (.lst [x])] S = .ok (.d (.str w)) S := by
  rw [call_d (fd := ⟨2, 3, b11, false⟩) rfl, r_run _ _ _ _ _ _ rfl]
  have cl := called_run (k + 1) S x
  rw [h] at cl
  simp only [R.bind_ex, f_ex, List.take_length] at cl
  have b : semB (C (k + 2)) gs 100000 [.ret (.lst [(.call 10 [(.var 0), (.var 1)])])] [some (.d (.fn 0)), some (.d (.lst [x])), none] S = .ex c a S := by
    simp [e_kN, e_kB, e_kI, e_kS, e_var, e_glb, e_fnv, e_typ, e_neg, e_bin, e_cmp, e_chn, e_and, e_or, e_not, e_ife, e_tup, e_lst, e_ix, e_slc, e_call, e_bi, e_mt, e_lc, e_dc, e_isE, e_isV, e_attr, e_dyn, e_pm, ra_0, t_isV, t_isE, t_dyn, i_lst, i_tup, i_slc, i_ix, i_bin, k_raise, k_asgP, k_asgX, sp_nil, sp_cons, sx_nil, sx_cons, f_ex, R.bind_ex, t_and, t_or, t_not, t_var, t_cmp, t_chn, t_call, t_bi, t_ix, i_var, i_call, i_bi, i_rng, i_zip, ss_nil, ss_cons, so_none, so_some, ea_nil, ea_cons, an_1, an_2, or_1, or_2, tan_1, tan_2, tor_1, tor_2, tal_0, tal_1, ep_0, ep_1, st_, st2_, tu_nil, tu_c, w_0, w_s, ca_ok, at1, at2_0, at2_1, at4_0, at4_1, at4_2, at4_3, bo_nil, bo_c, io_nil, io_c, is_int, is_intb, is_tup, g_0, g_s, p_d, p_own, p_ref, d_d, d_own, a_d, a_own, a_ref, c_lst, c_dct, pk_nil, pk_cons, sa_nil, sa_cons, ao_nil, ao_cons, b_add, b_sub, b_mul, b_div, b_mod, b_pow, b_cat, n_int, n_bl, cv, c_eq, c_ne, c_lt, c_le, c_gt, c_ge, c_in, c_notIn, eq_int, x_lst, x_tup, x_dct, tr_bl, tr_int, bi_len, bi_lent, bi_abs, bi_int, bi_all, bi_list, bi_listk, bi_listt, bi_tuple, bi_tuplet, io_lst, io_klst, io_tup, k_nil, k_cons, k_asg, k_asgS, k_asgN, k_setix, k_ex, k_ret, k_retN, k_iff, k_whl, k_for, k_brk, k_cont, lo_nil, lo_cons, li_some, as_nm, as_tup, as_0, as_s, f_rt, f_own, f_nx, R.bind_ok, R.of_some, Option.bind_some, Option.map_some, List.length_cons, List.length_nil, List.set_cons_zero, List.set_cons_succ, List.map_cons, List.map_nil, List.replicate, List.cons_append, List.nil_append, if_true, if_false, Bool.false_eq_true, cl]
  show fin S.length (semB (C (k + 2)) gs 100000 b11 [some (.d (.fn 0)), some (.d (.lst [x])), none] S) = _
  have ct : ([0, 1, 2, 3, 4, 5] : List Nat).contains c = true := by
    have : c = 0 ∨ c = 1 ∨ c = 2 ∨ c = 3 ∨ c = 4 ∨ c = 5 := by omega
    rcases this with rfl | rfl | rfl | rfl | rfl | rfl <;> rfl
  unfold b11
  rw [k_cons, k_tryF, b]
  simp only [ct, if_true, hw]
  simp [e_kN, e_kB, e_kI, e_kS, e_var, e_glb, e_fnv, e_typ, e_neg, e_bin, e_cmp, e_chn, e_and, e_or, e_not, e_ife, e_tup, e_lst, e_ix, e_slc, e_call, e_bi, e_mt, e_lc, e_dc, e_isE, e_isV, e_attr, e_dyn, e_pm, ra_0, t_isV, t_isE, t_dyn, i_lst, i_tup, i_slc, i_ix, i_bin, k_raise, k_asgP, k_asgX, sp_nil, sp_cons, sx_nil, sx_cons, f_ex, R.bind_ex, t_and, t_or, t_not, t_var, t_cmp, t_chn, t_call, t_bi, t_ix, i_var, i_call, i_bi, i_rng, i_zip, ss_nil, ss_cons, so_none, so_some, ea_nil, ea_cons, an_1, an_2, or_1, or_2, tan_1, tan_2, tor_1, tor_2, tal_0, tal_1, ep_0, ep_1, st_, st2_, tu_nil, tu_c, w_0, w_s, ca_ok, at1, at2_0, at2_1, at4_0, at4_1, at4_2, at4_3, bo_nil, bo_c, io_nil, io_c, is_int, is_intb, is_tup, g_0, g_s, p_d, p_own, p_ref, d_d, d_own, a_d, a_own, a_ref, c_lst, c_dct, pk_nil, pk_cons, sa_nil, sa_cons, ao_nil, ao_cons, b_add, b_sub, b_mul, b_div, b_mod, b_pow, b_cat, n_int, n_bl, cv, c_eq, c_ne, c_lt, c_le, c_gt, c_ge, c_in, c_notIn, eq_int, x_lst, x_tup, x_dct, tr_bl, tr_int, bi_len, bi_lent, bi_abs, bi_int, bi_all, bi_list, bi_listk, bi_listt, bi_tuple, bi_tuplet, io_lst, io_klst, io_tup, k_nil, k_cons, k_asg, k_asgS, k_asgN, k_setix, k_ex, k_ret, k_retN, k_iff, k_whl, k_for, k_brk, k_cont, lo_nil, lo_cons, li_some, as_nm, as_tup, as_0, as_s, f_rt, f_own, f_nx, R.bind_ok, R.of_some, Option.bind_some, Option.map_some, List.length_cons, List.length_nil, List.set_cons_zero, List.set_cons_succ, List.map_cons, List.map_nil, List.replicate, List.cons_append, List.nil_append, if_true, if_false, Bool.false_eq_true]
end K50

set_option maxHeartbeats 2000000
namespace K50
open Mi
open PySem (Str PyData)
/-! ### == and repr of answers -/
mutual
def okD : D → Bool
  | .non => true
  | .bl _ => true
  | .int i => decide (i.natAbs.log2 < 100)
  | .str x => (PyData.str x).canLay0 && (PyData.str x).showable && (PyData.str x).leavesShort 200
  | .lst xs => okDs xs
  | .tup xs => okDs xs
  | _ => false
def okDs : List D → Bool
  | [] => true
  | x :: xs => okD x && okDs xs
end
mutual
def cnt : D → Nat
  | .str x => (PyData.str x).bulk
  | .lst xs => cnts xs
  | .tup xs => cnts xs
  | _ => 0
def cnts : List D → Nat
  | [] => 0
  | x :: xs => cnt x + 1 + cnts xs
end
mutual
def dep : D → Nat
  | .lst xs => deps xs + 1
  | .tup xs => deps xs + 1
  | _ => 0
def deps : List D → Nat
  | [] => 0
  | x :: xs => max (dep x) (deps xs)
end
structure Okp (p : PyData) (n d : Nat) : Prop where
  lay : p.canLay0 = true
  show_ : p.showable = true
  short : p.leavesShort 200 = true
  dp : p.depth = d
  bk : p.bulk = n
structure Okps (p : List PyData) (n d : Nat) : Prop where
  lay : PyData.canLayAll0 p = true
  show_ : PyData.showableAll p = true
  short : PyData.leavesShortAll 200 p = true
  dp : PyData.depthAll p = d
  bk : PyData.bulkAll p = n
mutual
theorem okp : ∀ (x : D), okD x = true → ∃ p, x.py = some p ∧ Okp p (cnt x) (dep x)
  | .non, _ => ⟨_, rfl, rfl, rfl, rfl, rfl, rfl⟩
  | .bl _, _ => ⟨_, rfl, rfl, rfl, rfl, rfl, rfl⟩
  | .int i, h => by
    have h : i.natAbs.log2 < 100 := of_decide_eq_true h
    have e := PySem.int_text_length_le (k := 100) (by decide) h
    refine ⟨_, rfl, rfl, decide_eq_true (by omega), decide_eq_true ?_, rfl, rfl⟩
    show (Str.ofString (toString i)).length ≤ 200
    rw [PySem.ofString_length]
    omega
  | .lst xs, h => by
    obtain ⟨ps, e, o⟩ := okps xs h
    refine ⟨.list ps, by unfold D.py; rw [e]; rfl, o.lay, o.show_, o.short, ?_, o.bk⟩
    show PyData.depthAll ps + 1 = deps xs + 1
    rw [o.dp]
  | .tup xs, h => by
    obtain ⟨ps, e, o⟩ := okps xs h
    refine ⟨.tuple ps, by unfold D.py; rw [e]; rfl, o.lay, o.show_, o.short, ?_, o.bk⟩
    show PyData.depthAll ps + 1 = deps xs + 1
    rw [o.dp]
  | .klst _, h => nomatch h
  | .str x, h => by
    have h : ((PyData.str x).canLay0 && (PyData.str x).showable && (PyData.str x).leavesShort 200) = true := h
    simp only [Bool.and_eq_true] at h
    exact ⟨_, rfl, h.1.1, h.1.2, h.2, rfl, rfl⟩
  | .dct _ _, h => nomatch h
  | .fn _, h => nomatch h
  | .ty _, h => nomatch h
  | .cls _, h => nomatch h
theorem okps : ∀ (xs : List D), okDs xs = true → ∃ ps, pys xs = some ps ∧ Okps ps (cnts xs) (deps xs)
  | [], _ => ⟨[], rfl, rfl, rfl, rfl, rfl, rfl⟩
  | x :: xs, h => by
    obtain ⟨h1, h2⟩ := Bool.and_eq_true_iff.mp (show (okD x && okDs xs) = true from h)
    obtain ⟨p, e, o⟩ := okp x h1
    obtain ⟨ps, e2, o2⟩ := okps xs h2
    refine ⟨p :: ps, by unfold pys; rw [e, e2]; rfl, ?_, ?_, ?_, ?_, ?_⟩
    · show (p.canLay0 && PyData.canLayAll0 ps) = true
      rw [o.lay, o2.lay]; rfl
    · show (p.showable && PyData.showableAll ps) = true
      rw [o.show_, o2.show_]; rfl
    · show (p.leavesShort 200 && PyData.leavesShortAll 200 ps) = true
      rw [o.short, o2.short]; rfl
    · show max p.depth (PyData.depthAll ps) = max (dep x) (deps xs)
      rw [o.dp, o2.dp]
    · show p.bulk + 1 + PyData.bulkAll ps = cnt x + 1 + cnts xs
      rw [o.bk, o2.bk]
end
theorem eq_self (x : D) (h : okD x = true) (hd : dep x ≤ 40) : eqD x x = some true := by
  obtain ⟨p, e, o⟩ := okp x h
  have s : PySem.SeqAt.shaped p = true := by
    unfold PySem.SeqAt.shaped
    rw [o.lay, decide_eq_true (by have := o.dp; omega)]; rfl
  have z : strsD x x = none ∨ eqD x x = some true := by
    cases x <;> first | exact .inl rfl | (right; show some (decide _) = _; rw [decide_eq_true rfl])
  rcases z with z | z
  case inr => exact z
  unfold eqD
  rw [z]
  show (x.py.bind fun a => x.py.bind fun b => if PySem.SeqAt.shaped a && PySem.SeqAt.shaped b then some (PyData.eqv a b) else none) = _
  rw [e]
  simp only [Option.bind_some, s, Bool.and_self, if_true]
  rw [PySem.SeqAt.eqv_refl p o.lay]
theorem repr_ok (x : D) (h : okD x = true) (hd : dep x ≤ 40) (hc : cnt x ≤ 80000) : ∃ t, biD .repr [x] = some (.d (.str t)) := by
  obtain ⟨p, e, o⟩ := okp x h
  have l := PySem.PyData.shown_le_bulk 200 (by omega) p o.short
  have b := o.bk
  have l2 : p.shown.length ≤ PySem.sizeLine := by
    have : (200 + 2) * p.bulk ≤ 202 * 80000 := Nat.mul_le_mul_left _ (by omega)
    have z : PySem.sizeLine = 16777216 := rfl
    omega
  refine ⟨p.shown, ?_⟩
  show (x.py.bind fun p => if p.showable && decide (p.depth ≤ 40) && decide (p.shown.length ≤ PySem.sizeLine) then some (Val.d (.str p.shown)) else none) = _
  rw [e]
  simp only [Option.bind_some, o.show_, decide_eq_true l2, decide_eq_true (show p.depth ≤ 40 by have := o.dp; omega), Bool.and_self, if_true]
theorem same_run (n : Nat) (x : D) (S : Store) (h : okD x = true) (hd : dep x ≤ 40) (hc : cnt x ≤ 80000) : C (n + 1) 8 [.d x, .d x] S = .ok (.d (.bl true)) S := by
  have e := eq_self x h hd
  obtain ⟨t, e2⟩ := repr_ok x h hd hc
  rw [call_d (fd := ⟨2, 2, b8, false⟩) rfl, r_run _ _ _ _ _ _ rfl]
  simp [b8, e_kN, e_kB, e_kI, e_kS, e_var, e_glb, e_fnv, e_typ, e_neg, e_bin, e_cmp, e_chn, e_and, e_or, e_not, e_ife, e_tup, e_lst, e_ix, e_slc, e_call, e_bi, e_mt, e_lc, e_dc, e_isE, e_isV, e_attr, e_dyn, e_pm, ra_0, t_isV, t_isE, t_dyn, i_lst, i_tup, i_slc, i_ix, i_bin, k_raise, k_asgP, k_asgX, sp_nil, sp_cons, sx_nil, sx_cons, f_ex, R.bind_ex, t_and, t_or, t_not, t_var, t_cmp, t_chn, t_call, t_bi, t_ix, i_var, i_call, i_bi, i_rng, i_zip, ss_nil, ss_cons, so_none, so_some, ea_nil, ea_cons, an_1, an_2, or_1, or_2, tan_1, tan_2, tor_1, tor_2, tal_0, tal_1, ep_0, ep_1, st_, st2_, tu_nil, tu_c, w_0, w_s, ca_ok, at1, at2_0, at2_1, at4_0, at4_1, at4_2, at4_3, bo_nil, bo_c, io_nil, io_c, is_int, is_intb, is_tup, g_0, g_s, p_d, p_own, p_ref, d_d, d_own, a_d, a_own, a_ref, c_lst, c_dct, pk_nil, pk_cons, sa_nil, sa_cons, ao_nil, ao_cons, b_add, b_sub, b_mul, b_div, b_mod, b_pow, b_cat, n_int, n_bl, cv, c_eq, c_ne, c_lt, c_le, c_gt, c_ge, c_in, c_notIn, eq_int, x_lst, x_tup, x_dct, tr_bl, tr_int, bi_len, bi_lent, bi_abs, bi_int, bi_all, bi_list, bi_listk, bi_listt, bi_tuple, bi_tuplet, io_lst, io_klst, io_tup, k_nil, k_cons, k_asg, k_asgS, k_asgN, k_setix, k_ex, k_ret, k_retN, k_iff, k_whl, k_for, k_brk, k_cont, lo_nil, lo_cons, li_some, as_nm, as_tup, as_0, as_s, f_rt, f_own, f_nx, R.bind_ok, R.of_some, Option.bind_some, Option.map_some, List.length_cons, List.length_nil, List.set_cons_zero, List.set_cons_succ, List.map_cons, List.map_nil, List.replicate, List.cons_append, List.nil_append, if_true, if_false, Bool.false_eq_true, eq_str, e, e2]
/-! ### the tokens are fit to be compared -/
theorem okD_str {x : Str} (h : ∀ c ∈ x.cps.toList, c < 1114112) : okD (.str x) = true := by
  show ((PyData.str x).canLay0 && (PyData.str x).showable && (PyData.str x).leavesShort 200) = true
  have h1 : (PyData.str x).canLay0 = true := by
    show PySem.PyData.strOk x = true
    unfold PySem.PyData.strOk
    rw [Array.all_eq_true_iff_forall_mem]
    intro c hc
    exact decide_eq_true (h c (Array.mem_toList_iff.mpr hc))
  have h2 : (PyData.str x).leavesShort 200 = true := by
    show (x.cps.toList.all fun c => decide (c < 16 ^ 8)) = true
    rw [List.all_eq_true]
    intro c hc
    have := h c hc
    exact decide_eq_true (by omega)
  rw [h1, h2]
  rfl
theorem cnt_str (cs : List Nat) : cnt (.str (tx cs)) = cs.length := tx_len cs
def Good (t : D) : Prop := okD t = true ∧ cnt t ≤ 17 ∧ dep t ≤ 1
theorem part_mem {cs : List Nat} {i j c : Nat} (h : c ∈ part cs i j) : c ∈ cs := List.mem_of_mem_drop (List.mem_of_mem_take h)
theorem good3 {k : Str} {v : D} {i : Nat} (hk : okD (.str k) = true) (hk2 : k.length ≤ 4) (hv : okD v = true) (hv2 : cnt v ≤ 10) (hv3 : dep v = 0) (hi : i ≤ 4000) : Good (.tup [.str k, v, .int ((i : Nat) : Int)]) := by
  have h3 : okD (.int ((i : Nat) : Int)) = true := by
    show decide (((i : Nat) : Int).natAbs.log2 < 100) = true
    rw [Int.natAbs_natCast]
    refine decide_eq_true (Nat.lt_of_lt_of_le (m := 13) ?_ (by omega))
    by_cases z : i = 0
    · subst z; decide
    · exact (Nat.log2_lt z).mpr (by omega)
  refine ⟨?_, ?_, ?_⟩
  · show (okD (.str k) && (okD v && (okD (.int ((i : Nat) : Int)) && true))) = true
    rw [hk, hv, h3]; rfl
  · show cnt (.str k) + 1 + (cnt v + 1 + (cnt (.int ((i : Nat) : Int)) + 1 + 0)) ≤ 17
    have : cnt (.str k) = k.length := rfl
    have : cnt (.int ((i : Nat) : Int)) = 0 := rfl
    omega
  · show max (dep (.str k)) (max (dep v) (max (dep (.int ((i : Nat) : Int))) 0)) + 1 ≤ 1
    have : dep (.str k) = 0 := rfl
    have : dep (.int ((i : Nat) : Int)) = 0 := rfl
    omega
theorem tok_good {cs : List Nat} (hl : cs.length ≤ 4000) (hk : ∀ c ∈ cs, c < 1114112) {i c : Nat} (e : cs[i]? = some c) {k v : D} {j : Nat} (h : tokAt cs i c = .inr (k, v, j)) : Good (.tup [k, v, .int ((i : Nat) : Int)]) := by
  have hi := (List.getElem?_eq_some_iff.mp e).1
  have bd := fun p => run_bd p (cs := cs) (i := i) (by omega)
  unfold tokAt at h
  by_cases hL : isL c = true
  · rw [if_pos hL] at h
    by_cases h1 : 10 < run isL (cs.drop i)
    · rw [if_pos h1] at h; cases h
    · rw [if_neg h1] at h
      cases h
      refine good3 (by decide +kernel) (by decide) (okD_str fun x hx => hk x (part_mem (show x ∈ part cs i (i + run isL (cs.drop i)) from hx))) ?_ rfl (by omega)
      rw [cnt_str, part_len _ _ _ (bd isL) (by omega)]
      omega
  · rw [if_neg hL] at h
    by_cases hD : isD c = true
    · rw [if_pos hD] at h
      by_cases h1 : c = 48 ∧ 1 < run isD (cs.drop i)
      · rw [if_pos h1] at h; cases h
      · rw [if_neg h1] at h
        by_cases h2 : 12 < run isD (cs.drop i)
        · rw [if_pos h2] at h; cases h
        · rw [if_neg h2] at h
          obtain ⟨v', ev, bv⟩ := int_of e hD h2
          rw [ev] at h
          cases h
          refine good3 (by decide +kernel) (by decide) ?_ (Nat.zero_le _) rfl (by omega)
          show decide (v'.natAbs.log2 < 100) = true
          refine decide_eq_true (Nat.lt_of_lt_of_le (m := 40) ?_ (by omega))
          by_cases z : v'.natAbs = 0
          · rw [z]; decide
          · exact (Nat.log2_lt z).mpr (by omega)
    · rw [if_neg hD] at h
      by_cases hS : isS c = true
      · rw [if_pos hS] at h
        cases h
        refine good3 (by decide +kernel) (by decide) (okD_str fun x hx => ?_) (by show 1 ≤ 10; omega) rfl (by omega)
        have : x = c := by simpa using hx
        rw [this]
        exact hk c (List.mem_of_getElem? e)
      · rw [if_neg hS] at h; cases h
theorem lex_good {cs : List Nat} (hl : cs.length ≤ 4000) (hk : ∀ c ∈ cs, c < 1114112) : ∀ (n i : Nat) (acc ts : List D), acc.length ≤ i → i ≤ cs.length → (∀ t ∈ acc, Good t) → lex cs n i acc = .inr ts → (∀ t ∈ ts, Good t) ∧ ts.length ≤ cs.length
  | 0, i, acc, ts, h1, h2, h3, h => by cases h; exact ⟨h3, by omega⟩
  | n + 1, i, acc, ts, h1, h2, h3, h => by
    unfold lex at h
    cases e : cs[i]? with
    | none => rw [e] at h; cases h; exact ⟨h3, by omega⟩
    | some c =>
      have hi := (List.getElem?_eq_some_iff.mp e).1
      rw [e] at h
      simp only [] at h
      by_cases hW : isW c = true
      · rw [if_pos hW] at h
        exact lex_good hl hk n (i + 1) acc ts (by omega) (by omega) h3 h
      · rw [if_neg hW] at h
        cases q : tokAt cs i c with
        | inl p => rw [q] at h; cases h
        | inr y =>
          obtain ⟨k, v, j⟩ := y
          rw [q] at h
          have gt := tok_gt e q
          refine lex_good hl hk n j _ ts (by simp; omega) gt.2 (fun t ht => ?_) h
          rcases List.mem_append.mp ht with ht | ht
          · exact h3 t ht
          · rw [List.mem_singleton.mp ht]; exact tok_good hl hk e q
theorem lex_bad {cs : List Nat} (hl : cs.length ≤ 4000) : ∀ (n i : Nat) (acc : List D) (p : Nat), lex cs n i acc = .inl p → p < 5000
  | 0, i, acc, p, h => by cases h
  | n + 1, i, acc, p, h => by
    unfold lex at h
    cases e : cs[i]? with
    | none => rw [e] at h; cases h
    | some c =>
      have hi := (List.getElem?_eq_some_iff.mp e).1
      rw [e] at h
      simp only [] at h
      by_cases hW : isW c = true
      · rw [if_pos hW] at h
        exact lex_bad hl n (i + 1) acc p h
      · rw [if_neg hW] at h
        cases q : tokAt cs i c with
        | inr y => obtain ⟨k, v, j⟩ := y; rw [q] at h; exact lex_bad hl n j _ p h
        | inl p' =>
          rw [q] at h
          cases h
          unfold tokAt at q
          by_cases hL : isL c = true
          · rw [if_pos hL] at q
            by_cases h1 : 10 < run isL (cs.drop i)
            · rw [if_pos h1] at q; cases q; omega
            · rw [if_neg h1] at q; cases q
          · rw [if_neg hL] at q
            by_cases hD : isD c = true
            · rw [if_pos hD] at q
              by_cases h1 : c = 48 ∧ 1 < run isD (cs.drop i)
              · rw [if_pos h1] at q; cases q; omega
              · rw [if_neg h1] at q
                by_cases h2 : 12 < run isD (cs.drop i)
                · rw [if_pos h2] at q; cases q; omega
                · rw [if_neg h2] at q; cases q
            · rw [if_neg hD] at q
              by_cases hS : isS c = true
              · rw [if_pos hS] at q; cases q
              · rw [if_neg hS] at q; cases q; omega
theorem goods : ∀ (ts : List D), (∀ t ∈ ts, Good t) → okDs ts = true ∧ cnts ts ≤ 18 * ts.length ∧ deps ts ≤ 1
  | [], _ => ⟨rfl, Nat.le_refl _, Nat.zero_le _⟩
  | t :: ts, h => by
    obtain ⟨g1, g2, g3⟩ := h t List.mem_cons_self
    obtain ⟨i1, i2, i3⟩ := goods ts fun x hx => h x (List.mem_cons_of_mem _ hx)
    refine ⟨?_, ?_, ?_⟩
    · show (okD t && okDs ts) = true
      rw [g1, i1]; rfl
    · show cnt t + 1 + cnts ts ≤ 18 * (ts.length + 1)
      omega
    · show max (dep t) (deps ts) ≤ 1
      omega
/-- what the law takes for due -/
def due (cs : List Nat) : D := match lex cs cs.length 0 [] with
  | .inl p => .str (("text " : Str) ++ (toString ((p : Nat) : Int) : Str))
  | .inr ts => .lst [.tup ts]
theorem ofs_ok (s : String) : ∀ c ∈ (Str.ofString s).cps.toList, c < 1114112 := by
  intro c hc
  rw [PySem.Str.ofString_eq_toList] at hc
  simp only [List.mem_map] at hc
  obtain ⟨d, _, rfl⟩ := hc
  have := d.valid
  unfold UInt32.isValidChar Nat.isValidChar at this
  show d.val.toNat < _
  omega
theorem due_same {cs : List Nat} (hl : cs.length ≤ 4000) (hk : ∀ c ∈ cs, c < 1114112) (n : Nat) (S : Store) : C (n + 1) 8 [.d (due cs), .d (due cs)] S = .ok (.d (.bl true)) S := by
  unfold due
  cases q : lex cs cs.length 0 [] with
  | inl p =>
    have hp := lex_bad hl _ _ _ _ q
    have len : (toString ((p : Nat) : Int) : Str).length ≤ 1921 := by
      have lg : ((p : Nat) : Int).natAbs.log2 < 1920 := by
        rw [Int.natAbs_natCast]
        refine Nat.lt_of_lt_of_le (m := 13) ?_ (by omega)
        by_cases z : p = 0
        · subst z; decide
        · exact (Nat.log2_lt z).mpr (by omega)
      show (Str.ofString (toString ((p : Nat) : Int))).length ≤ _
      rw [PySem.ofString_length]
      exact PySem.int_text_length_le (k := 1920) (by decide) lg
    have h5 : ("text " : Str).length = 5 := by decide
    refine same_run n _ S (okD_str fun c hc => ?_) (Nat.zero_le _) ?_
    · have hc : c ∈ ((Str.ofString "text ").cps ++ (Str.ofString (toString ((p : Nat) : Int))).cps).toList := hc
      rw [Array.toList_append] at hc
      rcases List.mem_append.mp hc with h | h
      · exact ofs_ok _ c h
      · exact ofs_ok _ c h
    · show ((Str.ofString "text ").cps ++ (Str.ofString (toString ((p : Nat) : Int))).cps).size ≤ 80000
      rw [Array.size_append]
      have a : (Str.ofString "text ").cps.size = 5 := h5
      have b : (Str.ofString (toString ((p : Nat) : Int))).cps.size ≤ 1921 := len
      omega
  | inr ts =>
    obtain ⟨g, gl⟩ := lex_good hl hk _ _ [] _ (by simp) (by omega) (fun t h => by simp at h) q
    obtain ⟨o1, o2, o3⟩ := goods ts g
    refine same_run n _ S ?_ ?_ ?_
    · show (okDs ts && true) = true
      rw [o1]; rfl
    · show max (deps ts + 1) 0 + 1 ≤ 40
      omega
    · show cnts ts + 1 + 0 ≤ 80000
      omega
theorem asked_run (k : Nat) (S : Store) {cs : List Nat} (hl : cs.length ≤ 4000) : ∃ v, C (k + 6) 11 [.d (.fn 0), .d (.lst [.str (tx cs)])] S = .ok v S ∧ v.arg = some (.d (due cs)) := by
  have t := tokens_run k S hl
  unfold due
  cases q : lex cs cs.length 0 [] with
  | inl p =>
    rw [q] at t
    exact ⟨_, asked_ex (k + 3) S _ _ _ 1 (by omega) t (word_1 _ _ p (lex_bad hl _ _ _ _ q)), rfl⟩
  | inr ts =>
    rw [q] at t
    exact ⟨_, asked_ok (k + 3) S _ _ t, rfl⟩
end K50

set_option maxHeartbeats 2000000
namespace K50
open Mi
open PySem (Str)
/-! ### draws -/
theorem lg_lt {x k : Nat} (h : x < 2 ^ k) (hk : 0 < k) : x.log2 < k := by
  by_cases z : x = 0
  · subst z
    show 0 < k
    exact hk
  · exact (Nat.log2_lt z).mpr h
theorem cmul_ok {i j : Int} {k l : Nat} (hi : i.natAbs < 2 ^ k) (hj : j.natAbs < 2 ^ l) (hk : 0 < k) (hl : 0 < l) (h : k + l ≤ 900000) : cmulB i j = true := by
  have h1 := lg_lt hi hk
  have h2 := lg_lt hj hl
  exact decide_eq_true (by omega)
abbrev cell (ns : List Int) (i a b s k : Int) : Cell := .lst [.lst (ns.map .int), .int i, .int a, .int b, .int s, .int k]
structure St (S : Store) (q : Nat) : Prop where
  ex : ∃ (ns : List Int) (i : Nat) (a b s : Int) (k : Nat), S = [cell ns i a b s k] ∧ (∀ x ∈ ns, 0 ≤ x) ∧ 0 ≤ a ∧ 0 ≤ b ∧ 0 ≤ s ∧ s < 2 ^ 32 ∧ k ≤ q
theorem st_0 (c : Cell) : ([c] : Store)[0]? = some c := rfl
theorem a60 (a b c d e f : D) : L2.atI [a, b, c, d, e, f] 0 = some a := rfl
theorem a61 (a b c d e f : D) : L2.atI [a, b, c, d, e, f] 1 = some b := rfl
theorem a62 (a b c d e f : D) : L2.atI [a, b, c, d, e, f] 2 = some c := rfl
theorem a63 (a b c d e f : D) : L2.atI [a, b, c, d, e, f] 3 = some d := rfl
theorem a64 (a b c d e f : D) : L2.atI [a, b, c, d, e, f] 4 = some e := rfl
theorem a65 (a b c d e f : D) : L2.atI [a, b, c, d, e, f] 5 = some f := rfl
theorem s61 (a b c d e f x : D) : setAt (.ref 0) (.int 1) x [.lst [a, b, c, d, e, f]] = some [.lst [a, x, c, d, e, f]] := rfl
theorem s62 (a b c d e f x : D) : setAt (.ref 0) (.int 2) x [.lst [a, b, c, d, e, f]] = some [.lst [a, b, x, d, e, f]] := rfl
theorem s63 (a b c d e f x : D) : setAt (.ref 0) (.int 3) x [.lst [a, b, c, d, e, f]] = some [.lst [a, b, c, x, e, f]] := rfl
theorem s64 (a b c d e f x : D) : setAt (.ref 0) (.int 4) x [.lst [a, b, c, d, e, f]] = some [.lst [a, b, c, d, x, f]] := rfl
theorem s65 (a b c d e f x : D) : setAt (.ref 0) (.int 5) x [.lst [a, b, c, d, e, f]] = some [.lst [a, b, c, d, e, x]] := rfl
theorem td3 (a b c : D) : tupD 3 (.tup [a, b, c]) = some [a, b, c] := rfl
theorem at_int (ns : List Int) (q : Nat) (h : q < ns.length) : L2.atI (ns.map D.int) (q : Int) = some (.int ns[q]) := by
  refine L2.atI_nat ?_
  rw [List.getElem?_map, List.getElem?_eq_getElem h]
  rfl
theorem draw_run (n : Nat) (S : Store) (q : Nat) (m : Int) (c : St S q) (h : 0 < m) (hm : cdivB m = true) (hq : q < 2 ^ 60) : ∃ r S', C (n + 1) 6 [.ref 0, I m] S = .ok (I r) S' ∧ 0 ≤ r ∧ r < m ∧ St S' (q + 1) := by
  obtain ⟨ns, i, a, b, s, k, rfl, hns, ha, hb, hs, hs2, hk⟩ := c.ex
  rw [call_r (fd := ⟨2, 3, b6, false⟩) rfl, r_run _ _ _ _ _ _ rfl]
  by_cases e1 : b = 0
  · subst e1
    by_cases e2 : i < ns.length
    · have a1 := at_int ns i e2
      have e3 : (i : Int) < (ns.length : Int) := by omega
      have p0 : 0 ≤ ns[i] := hns _ (List.getElem_mem e2)
      have p1 : 0 ≤ ns[i] / m := Int.ediv_nonneg p0 (by omega)
      by_cases z : 0 < ns[i] / m
      · refine ⟨ns[i] % m, [cell ns ((i + 1 : Nat) : Int) (ns[i] / m) 59 s k], ?_, Int.emod_nonneg _ (by omega), Int.emod_lt_of_pos _ h, ⟨ns, i + 1, _, 59, s, k, rfl, hns, p1, by omega, hs, hs2, by omega⟩⟩
        simp [b6, e_kN, e_kB, e_kI, e_kS, e_var, e_glb, e_fnv, e_typ, e_neg, e_bin, e_cmp, e_chn, e_and, e_or, e_not, e_ife, e_tup, e_lst, e_ix, e_slc, e_call, e_bi, e_mt, e_lc, e_dc, e_isE, e_isV, e_attr, e_dyn, e_pm, ra_0, t_isV, t_isE, t_dyn, i_lst, i_tup, i_slc, i_ix, i_bin, k_raise, k_asgP, k_asgX, sp_nil, sp_cons, sx_nil, sx_cons, f_ex, R.bind_ex, t_and, t_or, t_not, t_var, t_cmp, t_chn, t_call, t_bi, t_ix, i_var, i_call, i_bi, i_rng, i_zip, ss_nil, ss_cons, so_none, so_some, ea_nil, ea_cons, an_1, an_2, or_1, or_2, tan_1, tan_2, tor_1, tor_2, tal_0, tal_1, ep_0, ep_1, st_, st2_, tu_nil, tu_c, w_0, w_s, ca_ok, at1, at2_0, at2_1, at4_0, at4_1, at4_2, at4_3, bo_nil, bo_c, io_nil, io_c, is_int, is_intb, is_tup, g_0, g_s, p_d, p_own, p_ref, d_d, d_own, a_d, a_own, a_ref, c_lst, c_dct, pk_nil, pk_cons, sa_nil, sa_cons, ao_nil, ao_cons, b_add, b_sub, b_mul, b_div, b_mod, b_pow, b_cat, n_int, n_bl, cv, c_eq, c_ne, c_lt, c_le, c_gt, c_ge, c_in, c_notIn, eq_int, x_lst, x_tup, x_dct, tr_bl, tr_int, bi_len, bi_lent, bi_abs, bi_int, bi_all, bi_list, bi_listk, bi_listt, bi_tuple, bi_tuplet, io_lst, io_klst, io_tup, k_nil, k_cons, k_asg, k_asgS, k_asgN, k_setix, k_ex, k_ret, k_retN, k_iff, k_whl, k_for, k_brk, k_cont, lo_nil, lo_cons, li_some, as_nm, as_tup, as_0, as_s, f_rt, f_own, f_nx, R.bind_ok, R.of_some, Option.bind_some, Option.map_some, List.length_cons, List.length_nil, List.set_cons_zero, List.set_cons_succ, List.map_cons, List.map_nil, List.replicate, List.cons_append, List.nil_append, if_true, if_false, Bool.false_eq_true, eq_int, st_0, a60, a61, a62, a63, a64, a65, s61, s62, s63, s64, s65, td3, e2, a1, h, hm, z, PySem.sizeLine]
      · refine ⟨ns[i] % m, [cell ns ((i + 1 : Nat) : Int) (ns[i] / m) 0 s k], ?_, Int.emod_nonneg _ (by omega), Int.emod_lt_of_pos _ h, ⟨ns, i + 1, _, 0, s, k, rfl, hns, p1, by omega, hs, hs2, by omega⟩⟩
        simp [b6, e_kN, e_kB, e_kI, e_kS, e_var, e_glb, e_fnv, e_typ, e_neg, e_bin, e_cmp, e_chn, e_and, e_or, e_not, e_ife, e_tup, e_lst, e_ix, e_slc, e_call, e_bi, e_mt, e_lc, e_dc, e_isE, e_isV, e_attr, e_dyn, e_pm, ra_0, t_isV, t_isE, t_dyn, i_lst, i_tup, i_slc, i_ix, i_bin, k_raise, k_asgP, k_asgX, sp_nil, sp_cons, sx_nil, sx_cons, f_ex, R.bind_ex, t_and, t_or, t_not, t_var, t_cmp, t_chn, t_call, t_bi, t_ix, i_var, i_call, i_bi, i_rng, i_zip, ss_nil, ss_cons, so_none, so_some, ea_nil, ea_cons, an_1, an_2, or_1, or_2, tan_1, tan_2, tor_1, tor_2, tal_0, tal_1, ep_0, ep_1, st_, st2_, tu_nil, tu_c, w_0, w_s, ca_ok, at1, at2_0, at2_1, at4_0, at4_1, at4_2, at4_3, bo_nil, bo_c, io_nil, io_c, is_int, is_intb, is_tup, g_0, g_s, p_d, p_own, p_ref, d_d, d_own, a_d, a_own, a_ref, c_lst, c_dct, pk_nil, pk_cons, sa_nil, sa_cons, ao_nil, ao_cons, b_add, b_sub, b_mul, b_div, b_mod, b_pow, b_cat, n_int, n_bl, cv, c_eq, c_ne, c_lt, c_le, c_gt, c_ge, c_in, c_notIn, eq_int, x_lst, x_tup, x_dct, tr_bl, tr_int, bi_len, bi_lent, bi_abs, bi_int, bi_all, bi_list, bi_listk, bi_listt, bi_tuple, bi_tuplet, io_lst, io_klst, io_tup, k_nil, k_cons, k_asg, k_asgS, k_asgN, k_setix, k_ex, k_ret, k_retN, k_iff, k_whl, k_for, k_brk, k_cont, lo_nil, lo_cons, li_some, as_nm, as_tup, as_0, as_s, f_rt, f_own, f_nx, R.bind_ok, R.of_some, Option.bind_some, Option.map_some, List.length_cons, List.length_nil, List.set_cons_zero, List.set_cons_succ, List.map_cons, List.map_nil, List.replicate, List.cons_append, List.nil_append, if_true, if_false, Bool.false_eq_true, eq_int, st_0, a60, a61, a62, a63, a64, a65, s61, s62, s63, s64, s65, td3, e2, a1, h, hm, z, PySem.sizeLine]
    · have e3 : ¬ (i : Int) < (ns.length : Int) := by omega
      have m1 : cmulB s 48271 = true := cmul_ok (k := 32) (l := 20) (by omega) (by decide) (by omega) (by omega) (by omega)
      have m2 : cmulB ((k : Int) + 1) ((k : Int) + 1) = true := cmul_ok (k := 62) (l := 62) (by omega) (by omega) (by omega) (by omega) (by omega)
      have m3 : cmulB (((k : Int) + 1) * ((k : Int) + 1)) 69621 = true := by
        refine cmul_ok (k := 124) (l := 20) ?_ (by decide) (by omega) (by omega) (by omega)
        rw [Int.natAbs_mul]
        have : ((k : Int) + 1).natAbs < 2 ^ 62 := by omega
        exact Nat.lt_of_lt_of_le (Nat.mul_lt_mul'' this this) (by decide)
      have d13 : cdivB 13 = true := by decide
      have g1 := Int.emod_nonneg (s * 48271 + ((k : Int) + 1) * ((k : Int) + 1) * 69621 + 11) (show (2147483647 : Int) ≠ 0 by omega)
      have g2 := Int.emod_lt_of_pos (s * 48271 + ((k : Int) + 1) * ((k : Int) + 1) * 69621 + 11) (show (0 : Int) < 2147483647 by omega)
      refine ⟨(s * 48271 + ((k : Int) + 1) * ((k : Int) + 1) * 69621 + 11) % 2147483647 / 13 % m, [cell ns i a 0 ((s * 48271 + ((k : Int) + 1) * ((k : Int) + 1) * 69621 + 11) % 2147483647) ((k + 1 : Nat) : Int)], ?_, Int.emod_nonneg _ (by omega), Int.emod_lt_of_pos _ h, ⟨ns, i, a, 0, _, k + 1, rfl, hns, ha, by omega, g1, by omega, by omega⟩⟩
      simp [b6, e_kN, e_kB, e_kI, e_kS, e_var, e_glb, e_fnv, e_typ, e_neg, e_bin, e_cmp, e_chn, e_and, e_or, e_not, e_ife, e_tup, e_lst, e_ix, e_slc, e_call, e_bi, e_mt, e_lc, e_dc, e_isE, e_isV, e_attr, e_dyn, e_pm, ra_0, t_isV, t_isE, t_dyn, i_lst, i_tup, i_slc, i_ix, i_bin, k_raise, k_asgP, k_asgX, sp_nil, sp_cons, sx_nil, sx_cons, f_ex, R.bind_ex, t_and, t_or, t_not, t_var, t_cmp, t_chn, t_call, t_bi, t_ix, i_var, i_call, i_bi, i_rng, i_zip, ss_nil, ss_cons, so_none, so_some, ea_nil, ea_cons, an_1, an_2, or_1, or_2, tan_1, tan_2, tor_1, tor_2, tal_0, tal_1, ep_0, ep_1, st_, st2_, tu_nil, tu_c, w_0, w_s, ca_ok, at1, at2_0, at2_1, at4_0, at4_1, at4_2, at4_3, bo_nil, bo_c, io_nil, io_c, is_int, is_intb, is_tup, g_0, g_s, p_d, p_own, p_ref, d_d, d_own, a_d, a_own, a_ref, c_lst, c_dct, pk_nil, pk_cons, sa_nil, sa_cons, ao_nil, ao_cons, b_add, b_sub, b_mul, b_div, b_mod, b_pow, b_cat, n_int, n_bl, cv, c_eq, c_ne, c_lt, c_le, c_gt, c_ge, c_in, c_notIn, eq_int, x_lst, x_tup, x_dct, tr_bl, tr_int, bi_len, bi_lent, bi_abs, bi_int, bi_all, bi_list, bi_listk, bi_listt, bi_tuple, bi_tuplet, io_lst, io_klst, io_tup, k_nil, k_cons, k_asg, k_asgS, k_asgN, k_setix, k_ex, k_ret, k_retN, k_iff, k_whl, k_for, k_brk, k_cont, lo_nil, lo_cons, li_some, as_nm, as_tup, as_0, as_s, f_rt, f_own, f_nx, R.bind_ok, R.of_some, Option.bind_some, Option.map_some, List.length_cons, List.length_nil, List.set_cons_zero, List.set_cons_succ, List.map_cons, List.map_nil, List.replicate, List.cons_append, List.nil_append, if_true, if_false, Bool.false_eq_true, eq_int, st_0, a60, a61, a62, a63, a64, a65, s61, s62, s63, s64, s65, td3, e2, h, hm, m1, m2, m3, d13, PySem.sizeLine]
  · have e0 : (b == 0) = false := by simpa using e1
    have eb : 0 < b := by omega
    have p1 : 0 ≤ a / m := Int.ediv_nonneg ha (by omega)
    by_cases z : 0 < a / m
    · refine ⟨a % m, [cell ns i (a / m) (b - 1) s k], ?_, Int.emod_nonneg _ (by omega), Int.emod_lt_of_pos _ h, ⟨ns, i, _, _, s, k, rfl, hns, p1, by omega, hs, hs2, by omega⟩⟩
      simp [b6, e_kN, e_kB, e_kI, e_kS, e_var, e_glb, e_fnv, e_typ, e_neg, e_bin, e_cmp, e_chn, e_and, e_or, e_not, e_ife, e_tup, e_lst, e_ix, e_slc, e_call, e_bi, e_mt, e_lc, e_dc, e_isE, e_isV, e_attr, e_dyn, e_pm, ra_0, t_isV, t_isE, t_dyn, i_lst, i_tup, i_slc, i_ix, i_bin, k_raise, k_asgP, k_asgX, sp_nil, sp_cons, sx_nil, sx_cons, f_ex, R.bind_ex, t_and, t_or, t_not, t_var, t_cmp, t_chn, t_call, t_bi, t_ix, i_var, i_call, i_bi, i_rng, i_zip, ss_nil, ss_cons, so_none, so_some, ea_nil, ea_cons, an_1, an_2, or_1, or_2, tan_1, tan_2, tor_1, tor_2, tal_0, tal_1, ep_0, ep_1, st_, st2_, tu_nil, tu_c, w_0, w_s, ca_ok, at1, at2_0, at2_1, at4_0, at4_1, at4_2, at4_3, bo_nil, bo_c, io_nil, io_c, is_int, is_intb, is_tup, g_0, g_s, p_d, p_own, p_ref, d_d, d_own, a_d, a_own, a_ref, c_lst, c_dct, pk_nil, pk_cons, sa_nil, sa_cons, ao_nil, ao_cons, b_add, b_sub, b_mul, b_div, b_mod, b_pow, b_cat, n_int, n_bl, cv, c_eq, c_ne, c_lt, c_le, c_gt, c_ge, c_in, c_notIn, eq_int, x_lst, x_tup, x_dct, tr_bl, tr_int, bi_len, bi_lent, bi_abs, bi_int, bi_all, bi_list, bi_listk, bi_listt, bi_tuple, bi_tuplet, io_lst, io_klst, io_tup, k_nil, k_cons, k_asg, k_asgS, k_asgN, k_setix, k_ex, k_ret, k_retN, k_iff, k_whl, k_for, k_brk, k_cont, lo_nil, lo_cons, li_some, as_nm, as_tup, as_0, as_s, f_rt, f_own, f_nx, R.bind_ok, R.of_some, Option.bind_some, Option.map_some, List.length_cons, List.length_nil, List.set_cons_zero, List.set_cons_succ, List.map_cons, List.map_nil, List.replicate, List.cons_append, List.nil_append, if_true, if_false, Bool.false_eq_true, eq_int, st_0, a60, a61, a62, a63, a64, a65, s61, s62, s63, s64, s65, e0, eb, h, hm, z, PySem.sizeLine]
    · refine ⟨a % m, [cell ns i (a / m) 0 s k], ?_, Int.emod_nonneg _ (by omega), Int.emod_lt_of_pos _ h, ⟨ns, i, _, _, s, k, rfl, hns, p1, by omega, hs, hs2, by omega⟩⟩
      simp [b6, e_kN, e_kB, e_kI, e_kS, e_var, e_glb, e_fnv, e_typ, e_neg, e_bin, e_cmp, e_chn, e_and, e_or, e_not, e_ife, e_tup, e_lst, e_ix, e_slc, e_call, e_bi, e_mt, e_lc, e_dc, e_isE, e_isV, e_attr, e_dyn, e_pm, ra_0, t_isV, t_isE, t_dyn, i_lst, i_tup, i_slc, i_ix, i_bin, k_raise, k_asgP, k_asgX, sp_nil, sp_cons, sx_nil, sx_cons, f_ex, R.bind_ex, t_and, t_or, t_not, t_var, t_cmp, t_chn, t_call, t_bi, t_ix, i_var, i_call, i_bi, i_rng, i_zip, ss_nil, ss_cons, so_none, so_some, ea_nil, ea_cons, an_1, an_2, or_1, or_2, tan_1, tan_2, tor_1, tor_2, tal_0, tal_1, ep_0, ep_1, st_, st2_, tu_nil, tu_c, w_0, w_s, ca_ok, at1, at2_0, at2_1, at4_0, at4_1, at4_2, at4_3, bo_nil, bo_c, io_nil, io_c, is_int, is_intb, is_tup, g_0, g_s, p_d, p_own, p_ref, d_d, d_own, a_d, a_own, a_ref, c_lst, c_dct, pk_nil, pk_cons, sa_nil, sa_cons, ao_nil, ao_cons, b_add, b_sub, b_mul, b_div, b_mod, b_pow, b_cat, n_int, n_bl, cv, c_eq, c_ne, c_lt, c_le, c_gt, c_ge, c_in, c_notIn, eq_int, x_lst, x_tup, x_dct, tr_bl, tr_int, bi_len, bi_lent, bi_abs, bi_int, bi_all, bi_list, bi_listk, bi_listt, bi_tuple, bi_tuplet, io_lst, io_klst, io_tup, k_nil, k_cons, k_asg, k_asgS, k_asgN, k_setix, k_ex, k_ret, k_retN, k_iff, k_whl, k_for, k_brk, k_cont, lo_nil, lo_cons, li_some, as_nm, as_tup, as_0, as_s, f_rt, f_own, f_nx, R.bind_ok, R.of_some, Option.bind_some, Option.map_some, List.length_cons, List.length_nil, List.set_cons_zero, List.set_cons_succ, List.map_cons, List.map_nil, List.replicate, List.cons_append, List.nil_append, if_true, if_false, Bool.false_eq_true, eq_int, st_0, a60, a61, a62, a63, a64, a65, s61, s62, s63, s64, s65, e0, eb, h, hm, z, PySem.sizeLine]
theorem St.mono {S : Store} {p q : Nat} (c : St S p) (h : p ≤ q) : St S q := let ⟨ns, i, a, b, s, k, e, h1, h2, h3, h4, h5, h6⟩ := c.ex; ⟨ns, i, a, b, s, k, e, h1, h2, h3, h4, h5, by omega⟩
theorem cdiv_nat {k : Nat} (h : 0 < k) (h2 : k < 2 ^ 60) : cdivB ((k : Nat) : Int) = true := by
  unfold cdivB
  rw [decide_eq_true (show (0 : Int) < ((k : Nat) : Int) by omega), Int.natAbs_natCast, decide_eq_true (Nat.lt_trans (lg_lt h2 (by omega)) (by omega))]
  rfl
theorem pick_run (n : Nat) (S : Store) (q : Nat) (xs : List D) (c : St S q) (h : xs ≠ []) (hl : xs.length < 2 ^ 60) (hq : q < 2 ^ 60) : ∃ x S', C (n + 2) 7 [.ref 0, .d (.lst xs)] S = .ok (.d x) S' ∧ x ∈ xs ∧ St S' (q + 1) := by
  have h0 : 0 < xs.length := List.length_pos_iff.mpr h
  obtain ⟨r, S', e, r0, r1, c'⟩ := draw_run n S q xs.length c (by omega) (cdiv_nat h0 hl) hq
  obtain ⟨k, rfl⟩ : ∃ k : Nat, r = k := ⟨r.toNat, by omega⟩
  have hk : k < xs.length := by omega
  have a1 : L2.atI xs (k : Int) = some xs[k] := L2.atI_nat (List.getElem?_eq_getElem hk)
  refine ⟨xs[k], S', ?_, List.getElem_mem hk, c'⟩
  obtain ⟨_, _, _, _, _, _, rfl, _⟩ := c'.ex
  obtain ⟨_, _, _, _, _, _, rfl, _⟩ := c.ex
  rw [call_r (fd := ⟨2, 2, b7, false⟩) rfl, r_run _ _ _ _ _ _ rfl]
  simp [b7, e_kN, e_kB, e_kI, e_kS, e_var, e_glb, e_fnv, e_typ, e_neg, e_bin, e_cmp, e_chn, e_and, e_or, e_not, e_ife, e_tup, e_lst, e_ix, e_slc, e_call, e_bi, e_mt, e_lc, e_dc, e_isE, e_isV, e_attr, e_dyn, e_pm, ra_0, t_isV, t_isE, t_dyn, i_lst, i_tup, i_slc, i_ix, i_bin, k_raise, k_asgP, k_asgX, sp_nil, sp_cons, sx_nil, sx_cons, f_ex, R.bind_ex, t_and, t_or, t_not, t_var, t_cmp, t_chn, t_call, t_bi, t_ix, i_var, i_call, i_bi, i_rng, i_zip, ss_nil, ss_cons, so_none, so_some, ea_nil, ea_cons, an_1, an_2, or_1, or_2, tan_1, tan_2, tor_1, tor_2, tal_0, tal_1, ep_0, ep_1, st_, st2_, tu_nil, tu_c, w_0, w_s, ca_ok, at1, at2_0, at2_1, at4_0, at4_1, at4_2, at4_3, bo_nil, bo_c, io_nil, io_c, is_int, is_intb, is_tup, g_0, g_s, p_d, p_own, p_ref, d_d, d_own, a_d, a_own, a_ref, c_lst, c_dct, pk_nil, pk_cons, sa_nil, sa_cons, ao_nil, ao_cons, b_add, b_sub, b_mul, b_div, b_mod, b_pow, b_cat, n_int, n_bl, cv, c_eq, c_ne, c_lt, c_le, c_gt, c_ge, c_in, c_notIn, eq_int, x_lst, x_tup, x_dct, tr_bl, tr_int, bi_len, bi_lent, bi_abs, bi_int, bi_all, bi_list, bi_listk, bi_listt, bi_tuple, bi_tuplet, io_lst, io_klst, io_tup, k_nil, k_cons, k_asg, k_asgS, k_asgN, k_setix, k_ex, k_ret, k_retN, k_iff, k_whl, k_for, k_brk, k_cont, lo_nil, lo_cons, li_some, as_nm, as_tup, as_0, as_s, f_rt, f_own, f_nx, R.bind_ok, R.of_some, Option.bind_some, Option.map_some, List.length_cons, List.length_nil, List.set_cons_zero, List.set_cons_succ, List.map_cons, List.map_nil, List.replicate, List.cons_append, List.nil_append, if_true, if_false, Bool.false_eq_true, e, a1]
end K50

set_option maxHeartbeats 2000000
namespace K50
open Mi
open PySem (Str)
/-! ### the state at the start -/
theorem cut63 {xs : List D} (h : xs.length ≤ 63) : cutL xs none (some 63) = xs := by
  unfold cutL
  have e1 : HT.sIx xs.length 0 none = 0 := rfl
  have e2 : HT.sIx xs.length xs.length (some (63 : Int)) = xs.length := by
    have := HT.sIx_nat xs.length xs.length 63
    rw [show (some (63 : Int)) = some ((63 : Nat) : Int) from rfl, this]
    omega
  rw [e1, e2, List.drop_zero, Nat.sub_zero, List.take_length]
theorem slc63 {xs : List D} (h : xs.length ≤ 63) : slcD (.klst xs) none (some 63) = some (.own (.lst xs)) := by
  show some (Val.own (.lst (cutL xs none (some 63)))) = _
  rw [cut63 h]
theorem start_loop (Fs : Fns) (v : Option Val) (S : Store) : ∀ (xs : List Int) (s : Int) (w : Option Val), 0 ≤ s → s < 2 ^ 32 → ∃ s' w', loop (fun x E S => (R.of (asgT (.nm 2) x E) S).bind fun E' S => semB Fs gs 100000 [.asg 1 (.bin .Add (.bin .Mod (.bi .int [(.bin .Add (.bin .Mult (.var 1) (.kI 48271)) (.var 2))]) (.kI 2147483629)) (.kI 1))] E' S) (xs.map .int) [v, some (I s), w] S = .ok (.nx, [v, some (I s'), w']) S ∧ 0 ≤ s' ∧ s' < 2 ^ 32
  | [], s, w, h0, h1 => ⟨s, w, rfl, h0, h1⟩
  | x :: xs, s, w, h0, h1 => by
    have c48 : cmulB s 48271 = true := cmul_ok (k := 32) (l := 20) (by omega) (by decide) (by omega) (by omega) (by omega)
    have g1 := Int.emod_nonneg (s * 48271 + x) (show (2147483629 : Int) ≠ 0 by omega)
    have g2 := Int.emod_lt_of_pos (s * 48271 + x) (show (0 : Int) < 2147483629 by omega)
    obtain ⟨s', w', e, h2, h3⟩ := start_loop Fs v S xs ((s * 48271 + x) % 2147483629 + 1) (some (I x)) (by omega) (by omega)
    refine ⟨s', w', ?_, h2, h3⟩
    rw [← e, List.map_cons, lo_cons]
    congr 1
    simp [e_kN, e_kB, e_kI, e_kS, e_var, e_glb, e_fnv, e_typ, e_neg, e_bin, e_cmp, e_chn, e_and, e_or, e_not, e_ife, e_tup, e_lst, e_ix, e_slc, e_call, e_bi, e_mt, e_lc, e_dc, e_isE, e_isV, e_attr, e_dyn, e_pm, ra_0, t_isV, t_isE, t_dyn, i_lst, i_tup, i_slc, i_ix, i_bin, k_raise, k_asgP, k_asgX, sp_nil, sp_cons, sx_nil, sx_cons, f_ex, R.bind_ex, t_and, t_or, t_not, t_var, t_cmp, t_chn, t_call, t_bi, t_ix, i_var, i_call, i_bi, i_rng, i_zip, ss_nil, ss_cons, so_none, so_some, ea_nil, ea_cons, an_1, an_2, or_1, or_2, tan_1, tan_2, tor_1, tor_2, tal_0, tal_1, ep_0, ep_1, st_, st2_, tu_nil, tu_c, w_0, w_s, ca_ok, at1, at2_0, at2_1, at4_0, at4_1, at4_2, at4_3, bo_nil, bo_c, io_nil, io_c, is_int, is_intb, is_tup, g_0, g_s, p_d, p_own, p_ref, d_d, d_own, a_d, a_own, a_ref, c_lst, c_dct, pk_nil, pk_cons, sa_nil, sa_cons, ao_nil, ao_cons, b_add, b_sub, b_mul, b_div, b_mod, b_pow, b_cat, n_int, n_bl, cv, c_eq, c_ne, c_lt, c_le, c_gt, c_ge, c_in, c_notIn, eq_int, x_lst, x_tup, x_dct, tr_bl, tr_int, bi_len, bi_lent, bi_abs, bi_int, bi_all, bi_list, bi_listk, bi_listt, bi_tuple, bi_tuplet, io_lst, io_klst, io_tup, k_nil, k_cons, k_asg, k_asgS, k_asgN, k_setix, k_ex, k_ret, k_retN, k_iff, k_whl, k_for, k_brk, k_cont, lo_nil, lo_cons, li_some, as_nm, as_tup, as_0, as_s, f_rt, f_own, f_nx, R.bind_ok, R.of_some, Option.bind_some, Option.map_some, List.length_cons, List.length_nil, List.set_cons_zero, List.set_cons_succ, List.map_cons, List.map_nil, List.replicate, List.cons_append, List.nil_append, if_true, if_false, Bool.false_eq_true, c48]
theorem abs_turns (Fs : Fns) (S : Store) (v u w : Option Val) : ∀ (xs : List Int) (acc : List D), turns (.nm 2) [2] (tsAll []) (strict (sem Fs gs (.bi .abs [(.bi .int [(.var 2)])]))) [v, u, w] (xs.map .int) acc S = .ok (acc ++ (xs.map fun x => ((x.natAbs : Nat) : Int)).map .int) S
  | [], acc => by simp [tu_nil]
  | x :: xs, acc => by
    have ih := abs_turns Fs S v u w xs (acc ++ [.int ((x.natAbs : Nat) : Int)])
    rw [List.map_cons, tu_c]
    have a0 : asgT (.nm 2) (.int x) (wipeE [v, u, w] [2]) = some [v, u, some (I x)] := rfl
    rw [a0]
    have st : strict (sem Fs gs (.bi .abs [(.bi .int [(.var 2)])])) [v, u, some (I x)] S = .ok (.int ((x.natAbs : Nat) : Int)) S := by
      rw [st_]
      simp only [e_kN, e_kB, e_kI, e_kS, e_var, e_glb, e_fnv, e_typ, e_neg, e_bin, e_cmp, e_chn, e_and, e_or, e_not, e_ife, e_tup, e_lst, e_ix, e_slc, e_call, e_bi, e_mt, e_lc, e_dc, e_isE, e_isV, e_attr, e_dyn, e_pm, ra_0, t_isV, t_isE, t_dyn, i_lst, i_tup, i_slc, i_ix, i_bin, k_raise, k_asgP, k_asgX, sp_nil, sp_cons, sx_nil, sx_cons, f_ex, R.bind_ex, t_and, t_or, t_not, t_var, t_cmp, t_chn, t_call, t_bi, t_ix, i_var, i_call, i_bi, i_rng, i_zip, ss_nil, ss_cons, so_none, so_some, ea_nil, ea_cons, an_1, an_2, or_1, or_2, tan_1, tan_2, tor_1, tor_2, tal_0, tal_1, ep_0, ep_1, st_, st2_, tu_nil, tu_c, w_0, w_s, ca_ok, at1, at2_0, at2_1, at4_0, at4_1, at4_2, at4_3, bo_nil, bo_c, io_nil, io_c, is_int, is_intb, is_tup, g_0, g_s, p_d, p_own, p_ref, d_d, d_own, a_d, a_own, a_ref, c_lst, c_dct, pk_nil, pk_cons, sa_nil, sa_cons, ao_nil, ao_cons, b_add, b_sub, b_mul, b_div, b_mod, b_pow, b_cat, n_int, n_bl, cv, c_eq, c_ne, c_lt, c_le, c_gt, c_ge, c_in, c_notIn, eq_int, x_lst, x_tup, x_dct, tr_bl, tr_int, bi_len, bi_lent, bi_abs, bi_int, bi_all, bi_list, bi_listk, bi_listt, bi_tuple, bi_tuplet, io_lst, io_klst, io_tup, k_nil, k_cons, k_asg, k_asgS, k_asgN, k_setix, k_ex, k_ret, k_retN, k_iff, k_whl, k_for, k_brk, k_cont, lo_nil, lo_cons, li_some, as_nm, as_tup, as_0, as_s, f_rt, f_own, f_nx, R.bind_ok, R.of_some, Option.bind_some, Option.map_some, List.length_cons, List.length_nil, List.set_cons_zero, List.set_cons_succ, List.map_cons, List.map_nil, List.replicate, List.cons_append, List.nil_append, if_true, if_false, Bool.false_eq_true]
    show ((tsAll [] [v, u, some (I x)] S).bind _) = _
    rw [tal_0]
    simp only [R.bind_ok, if_true, st, ih]
    try simp
theorem start_run (n : Nat) (ns : List Int) (hn : ns.length ≤ 63) : ∃ S : Store, ∃ c, C (n + 1) 5 [.d (kInts ns)] [] = .ok (.own c) [] ∧ St [c] 0 := by
  obtain ⟨s, w, e, h0, h1⟩ := start_loop (C n) (some (.d (.klst (ns.map .int)))) [] ns 7 none (by omega) (by omega)
  refine ⟨[], cell (ns.map fun x => ((x.natAbs : Nat) : Int)) ((0 : Nat) : Int) 0 0 s ((0 : Nat) : Int), ?_, ⟨_, 0, 0, 0, s, 0, rfl, fun x hx => ?_, by omega, by omega, h0, h1, by omega⟩⟩
  · rw [call_d (fd := ⟨1, 3, b5, false⟩) rfl, r_run _ _ _ _ _ _ rfl]
    have sl := slc63 (xs := ns.map D.int) (by rw [List.length_map]; exact hn)
    have f : semS (C n) gs 100000 (.for (.nm 2) (.slc (.var 0) none (some (.kI 63))) [.asg 1 (.bin .Add (.bin .Mod (.bi .int [(.bin .Add (.bin .Mult (.var 1) (.kI 48271)) (.var 2))]) (.kI 2147483629)) (.kI 1))]) [some (.d (.klst (ns.map .int))), some (I 7), none] [] = .ok (.nx, [some (.d (.klst (ns.map .int))), some (I s), w]) [] := by
      rw [k_for]
      have it : (sem (C n) gs (.slc (.var 0) none (some (.kI 63)))).it [some (.d (.klst (ns.map .int))), some (I 7), none] [] = .ok (ns.map .int) [] := by
        simp [e_kN, e_kB, e_kI, e_kS, e_var, e_glb, e_fnv, e_typ, e_neg, e_bin, e_cmp, e_chn, e_and, e_or, e_not, e_ife, e_tup, e_lst, e_ix, e_slc, e_call, e_bi, e_mt, e_lc, e_dc, e_isE, e_isV, e_attr, e_dyn, e_pm, ra_0, t_isV, t_isE, t_dyn, i_lst, i_tup, i_slc, i_ix, i_bin, k_raise, k_asgP, k_asgX, sp_nil, sp_cons, sx_nil, sx_cons, f_ex, R.bind_ex, t_and, t_or, t_not, t_var, t_cmp, t_chn, t_call, t_bi, t_ix, i_var, i_call, i_bi, i_rng, i_zip, ss_nil, ss_cons, so_none, so_some, ea_nil, ea_cons, an_1, an_2, or_1, or_2, tan_1, tan_2, tor_1, tor_2, tal_0, tal_1, ep_0, ep_1, st_, st2_, tu_nil, tu_c, w_0, w_s, ca_ok, at1, at2_0, at2_1, at4_0, at4_1, at4_2, at4_3, bo_nil, bo_c, io_nil, io_c, is_int, is_intb, is_tup, g_0, g_s, p_d, p_own, p_ref, d_d, d_own, a_d, a_own, a_ref, c_lst, c_dct, pk_nil, pk_cons, sa_nil, sa_cons, ao_nil, ao_cons, b_add, b_sub, b_mul, b_div, b_mod, b_pow, b_cat, n_int, n_bl, cv, c_eq, c_ne, c_lt, c_le, c_gt, c_ge, c_in, c_notIn, eq_int, x_lst, x_tup, x_dct, tr_bl, tr_int, bi_len, bi_lent, bi_abs, bi_int, bi_all, bi_list, bi_listk, bi_listt, bi_tuple, bi_tuplet, io_lst, io_klst, io_tup, k_nil, k_cons, k_asg, k_asgS, k_asgN, k_setix, k_ex, k_ret, k_retN, k_iff, k_whl, k_for, k_brk, k_cont, lo_nil, lo_cons, li_some, as_nm, as_tup, as_0, as_s, f_rt, f_own, f_nx, R.bind_ok, R.of_some, Option.bind_some, Option.map_some, List.length_cons, List.length_nil, List.set_cons_zero, List.set_cons_succ, List.map_cons, List.map_nil, List.replicate, List.cons_append, List.nil_append, if_true, if_false, Bool.false_eq_true, sl]
      rw [it]
      exact e
    have l : (sem (C n) gs (.lc (.bi .abs [(.bi .int [(.var 2)])]) (.nm 2) (.slc (.var 0) none (some (.kI 63))) [] [2])).ev [some (.d (.klst (ns.map .int))), some (I s), w] [] = .ok (.own (.lst ((ns.map fun x => ((x.natAbs : Nat) : Int)).map .int))) [] := by
      rw [e_lc]
      have it : (sem (C n) gs (.slc (.var 0) none (some (.kI 63)))).it [some (.d (.klst (ns.map .int))), some (I s), w] [] = .ok (ns.map .int) [] := by
        simp [e_kN, e_kB, e_kI, e_kS, e_var, e_glb, e_fnv, e_typ, e_neg, e_bin, e_cmp, e_chn, e_and, e_or, e_not, e_ife, e_tup, e_lst, e_ix, e_slc, e_call, e_bi, e_mt, e_lc, e_dc, e_isE, e_isV, e_attr, e_dyn, e_pm, ra_0, t_isV, t_isE, t_dyn, i_lst, i_tup, i_slc, i_ix, i_bin, k_raise, k_asgP, k_asgX, sp_nil, sp_cons, sx_nil, sx_cons, f_ex, R.bind_ex, t_and, t_or, t_not, t_var, t_cmp, t_chn, t_call, t_bi, t_ix, i_var, i_call, i_bi, i_rng, i_zip, ss_nil, ss_cons, so_none, so_some, ea_nil, ea_cons, an_1, an_2, or_1, or_2, tan_1, tan_2, tor_1, tor_2, tal_0, tal_1, ep_0, ep_1, st_, st2_, tu_nil, tu_c, w_0, w_s, ca_ok, at1, at2_0, at2_1, at4_0, at4_1, at4_2, at4_3, bo_nil, bo_c, io_nil, io_c, is_int, is_intb, is_tup, g_0, g_s, p_d, p_own, p_ref, d_d, d_own, a_d, a_own, a_ref, c_lst, c_dct, pk_nil, pk_cons, sa_nil, sa_cons, ao_nil, ao_cons, b_add, b_sub, b_mul, b_div, b_mod, b_pow, b_cat, n_int, n_bl, cv, c_eq, c_ne, c_lt, c_le, c_gt, c_ge, c_in, c_notIn, eq_int, x_lst, x_tup, x_dct, tr_bl, tr_int, bi_len, bi_lent, bi_abs, bi_int, bi_all, bi_list, bi_listk, bi_listt, bi_tuple, bi_tuplet, io_lst, io_klst, io_tup, k_nil, k_cons, k_asg, k_asgS, k_asgN, k_setix, k_ex, k_ret, k_retN, k_iff, k_whl, k_for, k_brk, k_cont, lo_nil, lo_cons, li_some, as_nm, as_tup, as_0, as_s, f_rt, f_own, f_nx, R.bind_ok, R.of_some, Option.bind_some, Option.map_some, List.length_cons, List.length_nil, List.set_cons_zero, List.set_cons_succ, List.map_cons, List.map_nil, List.replicate, List.cons_append, List.nil_append, if_true, if_false, Bool.false_eq_true, sl]
      rw [it]
      have t := abs_turns (C n) [] (some (.d (.klst (ns.map .int)))) (some (I s)) w ns []
      simp only [R.bind_ok, ss_nil, t, ca_ok, List.nil_append]
    simp only [kInts]
    show fin 0 (semB (C n) gs 100000 b5 [some (.d (.klst (ns.map .int))), none, none] []) = _
    unfold b5
    rw [k_cons]
    have a0 : semS (C n) gs 100000 (.asg 1 (.kI 7)) [some (.d (.klst (ns.map .int))), none, none] [] = .ok (.nx, [some (.d (.klst (ns.map .int))), some (I 7), none]) [] := rfl
    rw [a0]
    simp only [R.bind_ok]
    rw [k_cons, f]
    simp only [R.bind_ok]
    have r : (sem (C n) gs (.lst [(.lc (.bi .abs [(.bi .int [(.var 2)])]) (.nm 2) (.slc (.var 0) none (some (.kI 63))) [] [2]), (.kI 0), (.kI 0), (.kI 0), (.var 1), (.kI 0)])).ev [some (.d (.klst (ns.map .int))), some (I s), w] [] = .ok (.own (cell (ns.map fun x => ((x.natAbs : Nat) : Int)) 0 0 0 s 0)) [] := by
      rw [e_lst, ss_cons, ea_cons, l]
      simp only [R.bind_ok]
      simp [e_kN, e_kB, e_kI, e_kS, e_var, e_glb, e_fnv, e_typ, e_neg, e_bin, e_cmp, e_chn, e_and, e_or, e_not, e_ife, e_tup, e_lst, e_ix, e_slc, e_call, e_bi, e_mt, e_lc, e_dc, e_isE, e_isV, e_attr, e_dyn, e_pm, ra_0, t_isV, t_isE, t_dyn, i_lst, i_tup, i_slc, i_ix, i_bin, k_raise, k_asgP, k_asgX, sp_nil, sp_cons, sx_nil, sx_cons, f_ex, R.bind_ex, t_and, t_or, t_not, t_var, t_cmp, t_chn, t_call, t_bi, t_ix, i_var, i_call, i_bi, i_rng, i_zip, ss_nil, ss_cons, so_none, so_some, ea_nil, ea_cons, an_1, an_2, or_1, or_2, tan_1, tan_2, tor_1, tor_2, tal_0, tal_1, ep_0, ep_1, st_, st2_, tu_nil, tu_c, w_0, w_s, ca_ok, at1, at2_0, at2_1, at4_0, at4_1, at4_2, at4_3, bo_nil, bo_c, io_nil, io_c, is_int, is_intb, is_tup, g_0, g_s, p_d, p_own, p_ref, d_d, d_own, a_d, a_own, a_ref, c_lst, c_dct, pk_nil, pk_cons, sa_nil, sa_cons, ao_nil, ao_cons, b_add, b_sub, b_mul, b_div, b_mod, b_pow, b_cat, n_int, n_bl, cv, c_eq, c_ne, c_lt, c_le, c_gt, c_ge, c_in, c_notIn, eq_int, x_lst, x_tup, x_dct, tr_bl, tr_int, bi_len, bi_lent, bi_abs, bi_int, bi_all, bi_list, bi_listk, bi_listt, bi_tuple, bi_tuplet, io_lst, io_klst, io_tup, k_nil, k_cons, k_asg, k_asgS, k_asgN, k_setix, k_ex, k_ret, k_retN, k_iff, k_whl, k_for, k_brk, k_cont, lo_nil, lo_cons, li_some, as_nm, as_tup, as_0, as_s, f_rt, f_own, f_nx, R.bind_ok, R.of_some, Option.bind_some, Option.map_some, List.length_cons, List.length_nil, List.set_cons_zero, List.set_cons_succ, List.map_cons, List.map_nil, List.replicate, List.cons_append, List.nil_append, if_true, if_false, Bool.false_eq_true, PySem.sizeLine]
    rw [k_cons, k_ret, r]
    rfl
  · obtain ⟨y, _, rfl⟩ := List.mem_map.mp hx
    omega
/-! ### texts -/
theorem mul_s (x : Str) (j : Int) (h : (decide (2 ≤ j) && decide (j < 2 ^ 31) && decide (1 ≤ x.length) && decide (x.length * j.toNat ≤ PySem.sizeLine)) = true) : binD .Mult (.str x) (.int j) = some (.d (.str ⟨(List.replicate j.toNat x.cps.toList).flatten.toArray⟩)) := if_pos h
theorem add_s (x y : Str) (h : x.length + y.length ≤ PySem.sizeLine) : binD .Add (.str x) (.str y) = some (.d (.str (x ++ y))) := if_pos h
theorem mul_is {x z : Str} {j : Int} (h : (decide (2 ≤ j) && decide (j < 2 ^ 31) && decide (1 ≤ x.length) && decide (x.length * j.toNat ≤ PySem.sizeLine)) = true) (e : (⟨(List.replicate j.toNat x.cps.toList).flatten.toArray⟩ : Str) = z) : binD .Mult (.str x) (.int j) = some (.d (.str z)) := by rw [mul_s x j h, e]
theorem add_is {x y z : Str} (h : x.length + y.length ≤ PySem.sizeLine) (e : x ++ y = z) : binD .Add (.str x) (.str y) = some (.d (.str z)) := by rw [add_s x y h, e]
theorem m1 : binD .Mult (.str "z") (.int 10) = some (.d (.str "zzzzzzzzzz")) := mul_is (by decide +kernel) (by decide +kernel)
theorem m2 : binD .Mult (.str "9") (.int 12) = some (.d (.str "999999999999")) := mul_is (by decide +kernel) (by decide +kernel)
theorem m3 : binD .Mult (.str "0") (.int 11) = some (.d (.str "00000000000")) := mul_is (by decide +kernel) (by decide +kernel)
theorem m4 : binD .Add (.str "1") (.str "00000000000") = some (.d (.str "100000000000")) := add_is (by decide +kernel) (by decide +kernel)
theorem m5 : binD .Mult (.str "z") (.int 11) = some (.d (.str "zzzzzzzzzzz")) := mul_is (by decide +kernel) (by decide +kernel)
theorem m6 : binD .Mult (.str "9") (.int 13) = some (.d (.str "9999999999999")) := mul_is (by decide +kernel) (by decide +kernel)
theorem m7 : binD .Mult (.str "0") (.int 14) = some (.d (.str "00000000000000")) := mul_is (by decide +kernel) (by decide +kernel)
theorem m8 : binD .Add (.str "1") (.str "00000000000000") = some (.d (.str "100000000000000")) := add_is (by decide +kernel) (by decide +kernel)
theorem m9 : binD .Mult (.str "x") (.int 40) = some (.d (.str "xxxxxxxxxxxxxxxxxxxxxxxxxxxxxxxxxxxxxxxx")) := mul_is (by decide +kernel) (by decide +kernel)
theorem m10 : binD .Mult (.str "0") (.int 9) = some (.d (.str "000000000")) := mul_is (by decide +kernel) (by decide +kernel)
def someL : List Str := ["sell", "a", "zzzzzzzzzz", "abcdefghij", "0", "7", "10", "999999999999", "100000000000", ";", ",", "(", ")", "/", "-", "#", ".", "of", "100"]
def oddL : List Str := ["zzzzzzzzzzz", "abcdefghijklm", "00", "01", "9999999999999", "100000000000000", "A", "_", "+", "=", ":", "	", "\"", "$", "xxxxxxxxxxxxxxxxxxxxxxxxxxxxxxxxxxxxxxxx", "000000000"]
def sepL : List Str := [" ", "  ", "\n", "", "", " \n"]
def pieceB (x : Str) : Bool := decide (x.length ≤ 40) && x.cps.toList.all fun c => decide (c < 1114112)
theorem some_ok : someL.all pieceB = true := by decide +kernel
theorem odd_ok : oddL.all pieceB = true := by decide +kernel
theorem sep_ok : sepL.all pieceB = true := by decide +kernel
theorem piece {l : List Str} (h : l.all pieceB = true) {x : D} (hx : x ∈ l.map D.str) : ∃ cs, x = .str (tx cs) ∧ cs.length ≤ 40 ∧ ∀ c ∈ cs, c < 1114112 := by
  obtain ⟨y, hy, rfl⟩ := List.mem_map.mp hx
  have q := List.all_eq_true.mp h y hy
  unfold pieceB at q
  rw [Bool.and_eq_true, decide_eq_true_eq, List.all_eq_true] at q
  exact ⟨y.cps.toList, by rw [tx_self], by have e : y.cps.toList.length = y.length := Array.length_toList; omega, fun c hc => of_decide_eq_true (q.2 c hc)⟩
theorem tx_add {a b : List Nat} (h : a.length + b.length ≤ 4000) : binD .Add (.str (tx a)) (.str (tx b)) = some (.d (.str (tx (a ++ b)))) := by
  refine add_is (by rw [tx_len, tx_len]; exact Nat.le_trans h line) ?_
  show Str.mk (a.toArray ++ b.toArray) = Str.mk (a ++ b).toArray
  rw [List.append_toArray]
end K50

set_option maxHeartbeats 2000000
namespace K50
open Mi
open PySem (Str)
def txB : List Sx := [.asg 3 (.bin .Add (.bin .Add (.var 3) (.ife (.cmp .Eq (.call 6 [(.var 0), (.kI 14)]) (.kI 0)) (.call 7 [(.var 0), (.var 2)]) (.call 7 [(.var 0), (.var 1)]))) (.call 7 [(.var 0), (.lst [(.kS " "), (.kS "  "), (.kS "\n"), (.kS ""), (.kS ""), (.kS " \n")])]))]
theorem tx_body (n : Nat) (S : Store) (q : Nat) (c : St S q) (hq : q + 3 < 2 ^ 60) (cs : List Nat) (hl : cs.length + 80 ≤ 4000) (hk : ∀ c ∈ cs, c < 1114112) (w : Option Val) : ∃ cs' S', semB (C (n + 2)) gs 100000 txB [some (.ref 0), some (.d (.lst (someL.map .str))), some (.d (.lst (oddL.map .str))), some (.d (.str (tx cs))), w] S = .ok (.nx, [some (.ref 0), some (.d (.lst (someL.map .str))), some (.d (.lst (oddL.map .str))), some (.d (.str (tx cs'))), w]) S' ∧ cs'.length ≤ cs.length + 80 ∧ (∀ c ∈ cs', c < 1114112) ∧ St S' (q + 3) := by
  obtain ⟨r, S1, e1, r0, r1, c1⟩ := draw_run (n + 1) S q 14 c (by omega) (by decide) (by omega)
  have fin2 : ∀ (xs : List Str), xs.all pieceB = true → xs ≠ [] → xs.length < 100 → ∀ S1, St S1 (q + 1) → ∃ ps S2, C (n + 2) 7 [.ref 0, .d (.lst (xs.map .str))] S1 = .ok (.d (.str (tx ps))) S2 ∧ ps.length ≤ 40 ∧ (∀ c ∈ ps, c < 1114112) ∧ St S2 (q + 2) := fun xs hx hn hl S1 c1 => by
    obtain ⟨x, S2, e, hm, c2⟩ := pick_run n S1 (q + 1) (xs.map .str) c1 (by simpa using hn) (by rw [List.length_map]; omega) (by omega)
    obtain ⟨ps, rfl, h1, h2⟩ := piece hx hm
    exact ⟨ps, S2, e, h1, h2, c2⟩
  have sp : ∀ S2, St S2 (q + 2) → ∃ ps S3, C (n + 2) 7 [.ref 0, .d (.lst [.str " ", .str "  ", .str "\n", .str "", .str "", .str " \n"])] S2 = .ok (.d (.str (tx ps))) S3 ∧ ps.length ≤ 40 ∧ (∀ c ∈ ps, c < 1114112) ∧ St S3 (q + 3) := fun S2 c2 => by
    obtain ⟨x, S3, e, hm, c3⟩ := pick_run n S2 (q + 2) (sepL.map .str) c2 (by simp [sepL]) (by simp [sepL]) (by omega)
    obtain ⟨ps, rfl, h1, h2⟩ := piece sep_ok hm
    exact ⟨ps, S3, e, h1, h2, c3⟩
  have join : ∀ (ps qs : List Nat), ps.length ≤ 40 → qs.length ≤ 40 → (∀ c ∈ ps, c < 1114112) → (∀ c ∈ qs, c < 1114112) → binD .Add (.str (tx cs)) (.str (tx ps)) = some (.d (.str (tx (cs ++ ps)))) ∧ binD .Add (.str (tx (cs ++ ps))) (.str (tx qs)) = some (.d (.str (tx (cs ++ ps ++ qs)))) ∧ (cs ++ ps ++ qs).length ≤ cs.length + 80 ∧ ∀ c ∈ cs ++ ps ++ qs, c < 1114112 := fun ps qs h1 h2 h3 h4 => by
    refine ⟨tx_add (by omega), tx_add (by rw [List.length_append]; omega), by rw [List.length_append, List.length_append]; omega, fun c hc => ?_⟩
    rcases List.mem_append.mp hc with hc | hc
    · rcases List.mem_append.mp hc with hc | hc
      · exact hk c hc
      · exact h3 c hc
    · exact h4 c hc
  by_cases z : r = 0
  · subst z
    obtain ⟨ps, S2, e2, p1, p2, c2⟩ := fin2 oddL odd_ok (by simp [oddL]) (by simp [oddL]) S1 c1
    obtain ⟨qs, S3, e3, q1, q2, c3⟩ := sp S2 c2
    obtain ⟨j1, j2, j3, j4⟩ := join ps qs p1 q1 p2 q2
    refine ⟨cs ++ ps ++ qs, S3, ?_, j3, j4, c3⟩
    unfold txB
    simp [e_kN, e_kB, e_kI, e_kS, e_var, e_glb, e_fnv, e_typ, e_neg, e_bin, e_cmp, e_chn, e_and, e_or, e_not, e_ife, e_tup, e_lst, e_ix, e_slc, e_call, e_bi, e_mt, e_lc, e_dc, e_isE, e_isV, e_attr, e_dyn, e_pm, ra_0, t_isV, t_isE, t_dyn, i_lst, i_tup, i_slc, i_ix, i_bin, k_raise, k_asgP, k_asgX, sp_nil, sp_cons, sx_nil, sx_cons, f_ex, R.bind_ex, t_and, t_or, t_not, t_var, t_cmp, t_chn, t_call, t_bi, t_ix, i_var, i_call, i_bi, i_rng, i_zip, ss_nil, ss_cons, so_none, so_some, ea_nil, ea_cons, an_1, an_2, or_1, or_2, tan_1, tan_2, tor_1, tor_2, tal_0, tal_1, ep_0, ep_1, st_, st2_, tu_nil, tu_c, w_0, w_s, ca_ok, at1, at2_0, at2_1, at4_0, at4_1, at4_2, at4_3, bo_nil, bo_c, io_nil, io_c, is_int, is_intb, is_tup, g_0, g_s, p_d, p_own, p_ref, d_d, d_own, a_d, a_own, a_ref, c_lst, c_dct, pk_nil, pk_cons, sa_nil, sa_cons, ao_nil, ao_cons, b_add, b_sub, b_mul, b_div, b_mod, b_pow, b_cat, n_int, n_bl, cv, c_eq, c_ne, c_lt, c_le, c_gt, c_ge, c_in, c_notIn, eq_int, x_lst, x_tup, x_dct, tr_bl, tr_int, bi_len, bi_lent, bi_abs, bi_int, bi_all, bi_list, bi_listk, bi_listt, bi_tuple, bi_tuplet, io_lst, io_klst, io_tup, k_nil, k_cons, k_asg, k_asgS, k_asgN, k_setix, k_ex, k_ret, k_retN, k_iff, k_whl, k_for, k_brk, k_cont, lo_nil, lo_cons, li_some, as_nm, as_tup, as_0, as_s, f_rt, f_own, f_nx, R.bind_ok, R.of_some, Option.bind_some, Option.map_some, List.length_cons, List.length_nil, List.set_cons_zero, List.set_cons_succ, List.map_cons, List.map_nil, List.replicate, List.cons_append, List.nil_append, if_true, if_false, Bool.false_eq_true, PySem.sizeLine, eq_int, e1, e2, j1, e3, j2]
  · have z' : (r == 0) = false := by simpa using z
    obtain ⟨ps, S2, e2, p1, p2, c2⟩ := fin2 someL some_ok (by simp [someL]) (by simp [someL]) S1 c1
    obtain ⟨qs, S3, e3, q1, q2, c3⟩ := sp S2 c2
    obtain ⟨j1, j2, j3, j4⟩ := join ps qs p1 q1 p2 q2
    refine ⟨cs ++ ps ++ qs, S3, ?_, j3, j4, c3⟩
    unfold txB
    simp [e_kN, e_kB, e_kI, e_kS, e_var, e_glb, e_fnv, e_typ, e_neg, e_bin, e_cmp, e_chn, e_and, e_or, e_not, e_ife, e_tup, e_lst, e_ix, e_slc, e_call, e_bi, e_mt, e_lc, e_dc, e_isE, e_isV, e_attr, e_dyn, e_pm, ra_0, t_isV, t_isE, t_dyn, i_lst, i_tup, i_slc, i_ix, i_bin, k_raise, k_asgP, k_asgX, sp_nil, sp_cons, sx_nil, sx_cons, f_ex, R.bind_ex, t_and, t_or, t_not, t_var, t_cmp, t_chn, t_call, t_bi, t_ix, i_var, i_call, i_bi, i_rng, i_zip, ss_nil, ss_cons, so_none, so_some, ea_nil, ea_cons, an_1, an_2, or_1, or_2, tan_1, tan_2, tor_1, tor_2, tal_0, tal_1, ep_0, ep_1, st_, st2_, tu_nil, tu_c, w_0, w_s, ca_ok, at1, at2_0, at2_1, at4_0, at4_1, at4_2, at4_3, bo_nil, bo_c, io_nil, io_c, is_int, is_intb, is_tup, g_0, g_s, p_d, p_own, p_ref, d_d, d_own, a_d, a_own, a_ref, c_lst, c_dct, pk_nil, pk_cons, sa_nil, sa_cons, ao_nil, ao_cons, b_add, b_sub, b_mul, b_div, b_mod, b_pow, b_cat, n_int, n_bl, cv, c_eq, c_ne, c_lt, c_le, c_gt, c_ge, c_in, c_notIn, eq_int, x_lst, x_tup, x_dct, tr_bl, tr_int, bi_len, bi_lent, bi_abs, bi_int, bi_all, bi_list, bi_listk, bi_listt, bi_tuple, bi_tuplet, io_lst, io_klst, io_tup, k_nil, k_cons, k_asg, k_asgS, k_asgN, k_setix, k_ex, k_ret, k_retN, k_iff, k_whl, k_for, k_brk, k_cont, lo_nil, lo_cons, li_some, as_nm, as_tup, as_0, as_s, f_rt, f_own, f_nx, R.bind_ok, R.of_some, Option.bind_some, Option.map_some, List.length_cons, List.length_nil, List.set_cons_zero, List.set_cons_succ, List.map_cons, List.map_nil, List.replicate, List.cons_append, List.nil_append, if_true, if_false, Bool.false_eq_true, PySem.sizeLine, eq_int, e1, z', z, e2, j1, e3, j2]
theorem tx_loop (n : Nat) : ∀ (xs : List D) (S : Store) (q : Nat) (cs : List Nat) (w : Option Val), St S q → q + 3 * xs.length < 2 ^ 60 → cs.length + 80 * xs.length ≤ 4000 → (∀ c ∈ cs, c < 1114112) →
    ∃ cs' w' S', loop (fun x E S => (R.of (asgT (.nm 4) x E) S).bind fun E' S => semB (C (n + 2)) gs 100000 txB E' S) xs [some (.ref 0), some (.d (.lst (someL.map .str))), some (.d (.lst (oddL.map .str))), some (.d (.str (tx cs))), w] S = .ok (.nx, [some (.ref 0), some (.d (.lst (someL.map .str))), some (.d (.lst (oddL.map .str))), some (.d (.str (tx cs'))), w']) S' ∧ cs'.length ≤ cs.length + 80 * xs.length ∧ (∀ c ∈ cs', c < 1114112) ∧ St S' (q + 3 * xs.length)
  | [], S, q, cs, w, c, h1, h2, h3 => ⟨cs, w, S, rfl, by simp, h3, c⟩
  | x :: xs, S, q, cs, w, c, h1, h2, h3 => by
    rw [List.length_cons] at h1 h2
    obtain ⟨cs1, S1, e1, l1, k1, c1⟩ := tx_body n S q c (by omega) cs (by omega) h3 (some (.d x))
    obtain ⟨cs2, w2, S2, e2, l2, k2, c2⟩ := tx_loop n xs S1 (q + 3) cs1 (some (.d x)) c1 (by omega) (by omega) k1
    refine ⟨cs2, w2, S2, ?_, by rw [List.length_cons]; omega, k2, by rw [List.length_cons, show q + 3 * (xs.length + 1) = q + 3 + 3 * xs.length by omega]; exact c2⟩
    rw [lo_cons]
    have a0 : asgT (.nm 4) x [some (.ref 0), some (.d (.lst (someL.map .str))), some (.d (.lst (oddL.map .str))), some (.d (.str (tx cs))), w] = some [some (.ref 0), some (.d (.lst (someL.map .str))), some (.d (.lst (oddL.map .str))), some (.d (.str (tx cs))), some (.d x)] := rfl
    rw [a0]
    simp only [R.of_some, R.bind_ok, e1]
    exact e2
theorem upTo_len : ∀ (n : Nat) (i : Int), (upTo i n).length = n
  | 0, _ => rfl
  | n + 1, i => congrArg (· + 1) (upTo_len n (i + 1))
theorem text_run (n : Nat) (S : Store) (q : Nat) (c : St S q) (hq : q + 100 < 2 ^ 60) (hS : S.length = 1) : ∃ cs S', C (n + 3) 13 [.ref 0] S = .ok (.d (.str (tx cs))) S' ∧ cs.length ≤ 4000 ∧ (∀ c ∈ cs, c < 1114112) ∧ St S' (q + 100) := by
  obtain ⟨r, S1, e1, r0, r1, c1⟩ := draw_run (n + 1) S q 20 c (by omega) (by decide) (by omega)
  have hr : (upTo 0 r.toNat).length ≤ 19 := by rw [upTo_len]; omega
  obtain ⟨cs, w, S2, e2, l2, k2, c2⟩ := tx_loop n (upTo 0 r.toNat) S1 (q + 1) [] none c1 (by omega) (by simp; omega) (by simp)
  refine ⟨cs, S2, ?_, by simp at l2; omega, k2, c2.mono (by omega)⟩
  rw [call_r (fd := ⟨1, 5, b13, false⟩) rfl, r_run _ _ _ _ _ _ rfl]
  have S2l : S2.length = 1 := by obtain ⟨_, _, _, _, _, _, e, _⟩ := c2.ex; rw [e]; rfl
  have f : semS (C (n + 2)) gs 100000 (.for (.nm 4) (.rng [(.call 6 [(.var 0), (.kI 20)])]) txB) [some (.ref 0), some (.d (.lst (someL.map .str))), some (.d (.lst (oddL.map .str))), some (.d (.str (tx []))), none] S = .ok (.nx, [some (.ref 0), some (.d (.lst (someL.map .str))), some (.d (.lst (oddL.map .str))), some (.d (.str (tx cs))), w]) S2 := by
    rw [k_for]
    have it : (sem (C (n + 2)) gs (.rng [(.call 6 [(.var 0), (.kI 20)])])).it [some (.ref 0), some (.d (.lst (someL.map .str))), some (.d (.lst (oddL.map .str))), some (.d (.str (tx []))), none] S = .ok (upTo 0 r.toNat) S1 := by
      have rd : rngD [.int r] = some (upTo 0 r.toNat) := by
        show (if (decide (-(2 ^ 62) ≤ r) && decide (r < 2 ^ 62) && decide (r ≤ PySem.sizeLine)) = true then some (upTo 0 r.toNat) else none) = _
        have z : (PySem.sizeLine : Int) = 16777216 := rfl
        rw [if_pos]
        simp only [Bool.and_eq_true, decide_eq_true_eq]
        omega
      rw [i_rng]
      simp [e_kN, e_kB, e_kI, e_kS, e_var, e_glb, e_fnv, e_typ, e_neg, e_bin, e_cmp, e_chn, e_and, e_or, e_not, e_ife, e_tup, e_lst, e_ix, e_slc, e_call, e_bi, e_mt, e_lc, e_dc, e_isE, e_isV, e_attr, e_dyn, e_pm, ra_0, t_isV, t_isE, t_dyn, i_lst, i_tup, i_slc, i_ix, i_bin, k_raise, k_asgP, k_asgX, sp_nil, sp_cons, sx_nil, sx_cons, f_ex, R.bind_ex, t_and, t_or, t_not, t_var, t_cmp, t_chn, t_call, t_bi, t_ix, i_var, i_call, i_bi, i_rng, i_zip, ss_nil, ss_cons, so_none, so_some, ea_nil, ea_cons, an_1, an_2, or_1, or_2, tan_1, tan_2, tor_1, tor_2, tal_0, tal_1, ep_0, ep_1, st_, st2_, tu_nil, tu_c, w_0, w_s, ca_ok, at1, at2_0, at2_1, at4_0, at4_1, at4_2, at4_3, bo_nil, bo_c, io_nil, io_c, is_int, is_intb, is_tup, g_0, g_s, p_d, p_own, p_ref, d_d, d_own, a_d, a_own, a_ref, c_lst, c_dct, pk_nil, pk_cons, sa_nil, sa_cons, ao_nil, ao_cons, b_add, b_sub, b_mul, b_div, b_mod, b_pow, b_cat, n_int, n_bl, cv, c_eq, c_ne, c_lt, c_le, c_gt, c_ge, c_in, c_notIn, eq_int, x_lst, x_tup, x_dct, tr_bl, tr_int, bi_len, bi_lent, bi_abs, bi_int, bi_all, bi_list, bi_listk, bi_listt, bi_tuple, bi_tuplet, io_lst, io_klst, io_tup, k_nil, k_cons, k_asg, k_asgS, k_asgN, k_setix, k_ex, k_ret, k_retN, k_iff, k_whl, k_for, k_brk, k_cont, lo_nil, lo_cons, li_some, as_nm, as_tup, as_0, as_s, f_rt, f_own, f_nx, R.bind_ok, R.of_some, Option.bind_some, Option.map_some, List.length_cons, List.length_nil, List.set_cons_zero, List.set_cons_succ, List.map_cons, List.map_nil, List.replicate, List.cons_append, List.nil_append, if_true, if_false, Bool.false_eq_true, e1, rd]
    rw [it]
    exact e2
  have sv : semS (C (n + 2)) gs 100000 (.asg 1 (.lst [(.kS "sell"), (.kS "a"), (.bin .Mult (.kS "z") (.kI 10)), (.kS "abcdefghij"), (.kS "0"), (.kS "7"), (.kS "10"), (.bin .Mult (.kS "9") (.kI 12)), (.bin .Add (.kS "1") (.bin .Mult (.kS "0") (.kI 11))), (.kS ";"), (.kS ","), (.kS "("), (.kS ")"), (.kS "/"), (.kS "-"), (.kS "#"), (.kS "."), (.kS "of"), (.kS "100")])) [some (.ref 0), none, none, none, none] S = .ok (.nx, [some (.ref 0), some (.d (.lst (someL.map .str))), none, none, none]) S := by
    simp [e_kN, e_kB, e_kI, e_kS, e_var, e_glb, e_fnv, e_typ, e_neg, e_bin, e_cmp, e_chn, e_and, e_or, e_not, e_ife, e_tup, e_lst, e_ix, e_slc, e_call, e_bi, e_mt, e_lc, e_dc, e_isE, e_isV, e_attr, e_dyn, e_pm, ra_0, t_isV, t_isE, t_dyn, i_lst, i_tup, i_slc, i_ix, i_bin, k_raise, k_asgP, k_asgX, sp_nil, sp_cons, sx_nil, sx_cons, f_ex, R.bind_ex, t_and, t_or, t_not, t_var, t_cmp, t_chn, t_call, t_bi, t_ix, i_var, i_call, i_bi, i_rng, i_zip, ss_nil, ss_cons, so_none, so_some, ea_nil, ea_cons, an_1, an_2, or_1, or_2, tan_1, tan_2, tor_1, tor_2, tal_0, tal_1, ep_0, ep_1, st_, st2_, tu_nil, tu_c, w_0, w_s, ca_ok, at1, at2_0, at2_1, at4_0, at4_1, at4_2, at4_3, bo_nil, bo_c, io_nil, io_c, is_int, is_intb, is_tup, g_0, g_s, p_d, p_own, p_ref, d_d, d_own, a_d, a_own, a_ref, c_lst, c_dct, pk_nil, pk_cons, sa_nil, sa_cons, ao_nil, ao_cons, b_add, b_sub, b_mul, b_div, b_mod, b_pow, b_cat, n_int, n_bl, cv, c_eq, c_ne, c_lt, c_le, c_gt, c_ge, c_in, c_notIn, eq_int, x_lst, x_tup, x_dct, tr_bl, tr_int, bi_len, bi_lent, bi_abs, bi_int, bi_all, bi_list, bi_listk, bi_listt, bi_tuple, bi_tuplet, io_lst, io_klst, io_tup, k_nil, k_cons, k_asg, k_asgS, k_asgN, k_setix, k_ex, k_ret, k_retN, k_iff, k_whl, k_for, k_brk, k_cont, lo_nil, lo_cons, li_some, as_nm, as_tup, as_0, as_s, f_rt, f_own, f_nx, R.bind_ok, R.of_some, Option.bind_some, Option.map_some, List.length_cons, List.length_nil, List.set_cons_zero, List.set_cons_succ, List.map_cons, List.map_nil, List.replicate, List.cons_append, List.nil_append, if_true, if_false, Bool.false_eq_true, PySem.sizeLine, m1, m2, m3, m4, someL]
  have ov : semS (C (n + 2)) gs 100000 (.asg 2 (.lst [(.bin .Mult (.kS "z") (.kI 11)), (.kS "abcdefghijklm"), (.kS "00"), (.kS "01"), (.bin .Mult (.kS "9") (.kI 13)), (.bin .Add (.kS "1") (.bin .Mult (.kS "0") (.kI 14))), (.kS "A"), (.kS "_"), (.kS "+"), (.kS "="), (.kS ":"), (.kS "	"), (.kS "\""), (.kS "$"), (.bin .Mult (.kS "x") (.kI 40)), (.bin .Mult (.kS "0") (.kI 9))])) [some (.ref 0), some (.d (.lst (someL.map .str))), none, none, none] S = .ok (.nx, [some (.ref 0), some (.d (.lst (someL.map .str))), some (.d (.lst (oddL.map .str))), none, none]) S := by
    simp [e_kN, e_kB, e_kI, e_kS, e_var, e_glb, e_fnv, e_typ, e_neg, e_bin, e_cmp, e_chn, e_and, e_or, e_not, e_ife, e_tup, e_lst, e_ix, e_slc, e_call, e_bi, e_mt, e_lc, e_dc, e_isE, e_isV, e_attr, e_dyn, e_pm, ra_0, t_isV, t_isE, t_dyn, i_lst, i_tup, i_slc, i_ix, i_bin, k_raise, k_asgP, k_asgX, sp_nil, sp_cons, sx_nil, sx_cons, f_ex, R.bind_ex, t_and, t_or, t_not, t_var, t_cmp, t_chn, t_call, t_bi, t_ix, i_var, i_call, i_bi, i_rng, i_zip, ss_nil, ss_cons, so_none, so_some, ea_nil, ea_cons, an_1, an_2, or_1, or_2, tan_1, tan_2, tor_1, tor_2, tal_0, tal_1, ep_0, ep_1, st_, st2_, tu_nil, tu_c, w_0, w_s, ca_ok, at1, at2_0, at2_1, at4_0, at4_1, at4_2, at4_3, bo_nil, bo_c, io_nil, io_c, is_int, is_intb, is_tup, g_0, g_s, p_d, p_own, p_ref, d_d, d_own, a_d, a_own, a_ref, c_lst, c_dct, pk_nil, pk_cons, sa_nil, sa_cons, ao_nil, ao_cons, b_add, b_sub, b_mul, b_div, b_mod, b_pow, b_cat, n_int, n_bl, cv, c_eq, c_ne, c_lt, c_le, c_gt, c_ge, c_in, c_notIn, eq_int, x_lst, x_tup, x_dct, tr_bl, tr_int, bi_len, bi_lent, bi_abs, bi_int, bi_all, bi_list, bi_listk, bi_listt, bi_tuple, bi_tuplet, io_lst, io_klst, io_tup, k_nil, k_cons, k_asg, k_asgS, k_asgN, k_setix, k_ex, k_ret, k_retN, k_iff, k_whl, k_for, k_brk, k_cont, lo_nil, lo_cons, li_some, as_nm, as_tup, as_0, as_s, f_rt, f_own, f_nx, R.bind_ok, R.of_some, Option.bind_some, Option.map_some, List.length_cons, List.length_nil, List.set_cons_zero, List.set_cons_succ, List.map_cons, List.map_nil, List.replicate, List.cons_append, List.nil_append, if_true, if_false, Bool.false_eq_true, PySem.sizeLine, m5, m6, m7, m8, m9, m10, oddL]
  have tv : semS (C (n + 2)) gs 100000 (.asg 3 (.kS "")) [some (.ref 0), some (.d (.lst (someL.map .str))), some (.d (.lst (oddL.map .str))), none, none] S = .ok (.nx, [some (.ref 0), some (.d (.lst (someL.map .str))), some (.d (.lst (oddL.map .str))), some (.d (.str (tx []))), none]) S := by
    have : (Str.ofString "") = tx [] := by decide
    simp [e_kN, e_kB, e_kI, e_kS, e_var, e_glb, e_fnv, e_typ, e_neg, e_bin, e_cmp, e_chn, e_and, e_or, e_not, e_ife, e_tup, e_lst, e_ix, e_slc, e_call, e_bi, e_mt, e_lc, e_dc, e_isE, e_isV, e_attr, e_dyn, e_pm, ra_0, t_isV, t_isE, t_dyn, i_lst, i_tup, i_slc, i_ix, i_bin, k_raise, k_asgP, k_asgX, sp_nil, sp_cons, sx_nil, sx_cons, f_ex, R.bind_ex, t_and, t_or, t_not, t_var, t_cmp, t_chn, t_call, t_bi, t_ix, i_var, i_call, i_bi, i_rng, i_zip, ss_nil, ss_cons, so_none, so_some, ea_nil, ea_cons, an_1, an_2, or_1, or_2, tan_1, tan_2, tor_1, tor_2, tal_0, tal_1, ep_0, ep_1, st_, st2_, tu_nil, tu_c, w_0, w_s, ca_ok, at1, at2_0, at2_1, at4_0, at4_1, at4_2, at4_3, bo_nil, bo_c, io_nil, io_c, is_int, is_intb, is_tup, g_0, g_s, p_d, p_own, p_ref, d_d, d_own, a_d, a_own, a_ref, c_lst, c_dct, pk_nil, pk_cons, sa_nil, sa_cons, ao_nil, ao_cons, b_add, b_sub, b_mul, b_div, b_mod, b_pow, b_cat, n_int, n_bl, cv, c_eq, c_ne, c_lt, c_le, c_gt, c_ge, c_in, c_notIn, eq_int, x_lst, x_tup, x_dct, tr_bl, tr_int, bi_len, bi_lent, bi_abs, bi_int, bi_all, bi_list, bi_listk, bi_listt, bi_tuple, bi_tuplet, io_lst, io_klst, io_tup, k_nil, k_cons, k_asg, k_asgS, k_asgN, k_setix, k_ex, k_ret, k_retN, k_iff, k_whl, k_for, k_brk, k_cont, lo_nil, lo_cons, li_some, as_nm, as_tup, as_0, as_s, f_rt, f_own, f_nx, R.bind_ok, R.of_some, Option.bind_some, Option.map_some, List.length_cons, List.length_nil, List.set_cons_zero, List.set_cons_succ, List.map_cons, List.map_nil, List.replicate, List.cons_append, List.nil_append, if_true, if_false, Bool.false_eq_true, this]
  show fin S.length (semB (C (n + 2)) gs 100000 b13 [some (.ref 0), none, none, none, none] S) = _
  have hb : b13 = [.asg 1 (.lst [(.kS "sell"), (.kS "a"), (.bin .Mult (.kS "z") (.kI 10)), (.kS "abcdefghij"), (.kS "0"), (.kS "7"), (.kS "10"), (.bin .Mult (.kS "9") (.kI 12)), (.bin .Add (.kS "1") (.bin .Mult (.kS "0") (.kI 11))), (.kS ";"), (.kS ","), (.kS "("), (.kS ")"), (.kS "/"), (.kS "-"), (.kS "#"), (.kS "."), (.kS "of"), (.kS "100")]),
    .asg 2 (.lst [(.bin .Mult (.kS "z") (.kI 11)), (.kS "abcdefghijklm"), (.kS "00"), (.kS "01"), (.bin .Mult (.kS "9") (.kI 13)), (.bin .Add (.kS "1") (.bin .Mult (.kS "0") (.kI 14))), (.kS "A"), (.kS "_"), (.kS "+"), (.kS "="), (.kS ":"), (.kS "	"), (.kS "\""), (.kS "$"), (.bin .Mult (.kS "x") (.kI 40)), (.bin .Mult (.kS "0") (.kI 9))]),
    .asg 3 (.kS ""), .for (.nm 4) (.rng [(.call 6 [(.var 0), (.kI 20)])]) txB, .ret (.var 3)] := rfl
  rw [hb, k_cons, sv]
  simp only [R.bind_ok]
  rw [k_cons, ov]
  simp only [R.bind_ok]
  rw [k_cons, tv]
  simp only [R.bind_ok]
  rw [k_cons, f]
  simp only [R.bind_ok]
  rw [k_cons, k_ret]
  simp only [e_var, g_0, g_s, R.of_some, R.bind_ok, f_rt]
  rw [hS, ← S2l, List.take_length]
end K50

set_option maxHeartbeats 2000000
namespace K50
open Mi
open PySem (Str)
/-! ### a turn of the law -/
def dueE : Ex := .ife (.bi .isinst [(.var 4), (.typ "list")]) (.lst [(.bi .tuple [(.var 4)])]) (.bin .Add (.kS "text ") (.bi .str [(.var 4)]))
def turnB : List Sx := [.asg 3 (.call 13 [(.var 1)]), .asg 4 (.call 12 [(.var 3)]), .iff (.notE (.call 8 [(.call 11 [(.fnv 0), (.lst [(.var 3)])]), dueE])) [.ret (.kB false)] []]
theorem due_bad {cs : List Nat} (hl : cs.length ≤ 4000) {p : Nat} (q : lex cs cs.length 0 [] = .inl p) : ∃ t : Str, biD .str [.int ((p : Nat) : Int)] = some (.d (.str t)) ∧ binD .Add (.str "text ") (.str t) = some (.d (due cs)) := by
  have hp := lex_bad hl _ _ _ _ q
  have lg : ((p : Nat) : Int).natAbs.log2 < 1920 := by
    rw [Int.natAbs_natCast]
    refine Nat.lt_of_lt_of_le (m := 13) ?_ (by omega)
    by_cases z : p = 0
    · subst z; decide
    · exact (Nat.log2_lt z).mpr (by omega)
  have ln : (("text " : Str).length + (toString ((p : Nat) : Int) : Str).length ≤ PySem.sizeLine) := by
    have e := PySem.int_text_length_le (k := 1920) (by decide) lg
    have e2 : (toString ((p : Nat) : Int) : Str).length ≤ 1921 := by
      show (Str.ofString (toString ((p : Nat) : Int))).length ≤ _
      rw [PySem.ofString_length]
      exact e
    have e3 : ("text " : Str).length = 5 := by decide
    have e4 : PySem.sizeLine = 16777216 := rfl
    omega
  refine ⟨(toString ((p : Nat) : Int) : Str), ?_, ?_⟩
  · show (if ((p : Nat) : Int).natAbs.log2 < 1920 then some (Val.d (.str (toString ((p : Nat) : Int) : Str))) else none) = _
    rw [if_pos lg]
  · rw [add_s _ _ ln]
    unfold due
    rw [q]
theorem due_good {cs ts : List _} (q : lex cs cs.length 0 [] = .inr ts) : due cs = .lst [.tup ts] := by
  unfold due
  rw [q]
theorem isi_l (xs : List D) : biD .isinst [.lst xs, .ty "list"] = some (.d (.bl true)) := rfl
theorem isi_i (x : Int) : biD .isinst [.int x, .ty "list"] = some (.d (.bl false)) := rfl
theorem turn_body (S : Store) (q : Nat) (c : St S q) (hq : q + 100 < 2 ^ 60) (a b x y w : Option Val) : ∃ x' y' S', semB (C 39) gs 100000 turnB [a, some (.ref 0), b, x, y, w] S = .ok (.nx, [a, some (.ref 0), b, x', y', w]) S' ∧ St S' (q + 100) := by
  have hS : S.length = 1 := by obtain ⟨_, _, _, _, _, _, e, _⟩ := c.ex; rw [e]; rfl
  obtain ⟨cs, S1, t, hl, hk, c1⟩ := text_run 36 S q c hq hS
  have l := lcut_run 38 S1 hl hk
  obtain ⟨v, ea, va⟩ := asked_run 33 S1 hl
  have sm := due_same hl hk 38 S1
  cases z : lex cs cs.length 0 [] with
  | inl p =>
    rw [z] at l
    obtain ⟨t', hb, ha⟩ := due_bad hl z
    refine ⟨some (.d (.str (tx cs))), some (I ((p : Nat) : Int)), S1, ?_, c1⟩
    unfold turnB dueE
    simp [e_kN, e_kB, e_kI, e_kS, e_var, e_glb, e_fnv, e_typ, e_neg, e_bin, e_cmp, e_chn, e_and, e_or, e_not, e_ife, e_tup, e_lst, e_ix, e_slc, e_call, e_bi, e_mt, e_lc, e_dc, e_isE, e_isV, e_attr, e_dyn, e_pm, ra_0, t_isV, t_isE, t_dyn, i_lst, i_tup, i_slc, i_ix, i_bin, k_raise, k_asgP, k_asgX, sp_nil, sp_cons, sx_nil, sx_cons, f_ex, R.bind_ex, t_and, t_or, t_not, t_var, t_cmp, t_chn, t_call, t_bi, t_ix, i_var, i_call, i_bi, i_rng, i_zip, ss_nil, ss_cons, so_none, so_some, ea_nil, ea_cons, an_1, an_2, or_1, or_2, tan_1, tan_2, tor_1, tor_2, tal_0, tal_1, ep_0, ep_1, st_, st2_, tu_nil, tu_c, w_0, w_s, ca_ok, at1, at2_0, at2_1, at4_0, at4_1, at4_2, at4_3, bo_nil, bo_c, io_nil, io_c, is_int, is_intb, is_tup, g_0, g_s, p_d, p_own, p_ref, d_d, d_own, a_d, a_own, a_ref, c_lst, c_dct, pk_nil, pk_cons, sa_nil, sa_cons, ao_nil, ao_cons, b_add, b_sub, b_mul, b_div, b_mod, b_pow, b_cat, n_int, n_bl, cv, c_eq, c_ne, c_lt, c_le, c_gt, c_ge, c_in, c_notIn, eq_int, x_lst, x_tup, x_dct, tr_bl, tr_int, bi_len, bi_lent, bi_abs, bi_int, bi_all, bi_list, bi_listk, bi_listt, bi_tuple, bi_tuplet, io_lst, io_klst, io_tup, k_nil, k_cons, k_asg, k_asgS, k_asgN, k_setix, k_ex, k_ret, k_retN, k_iff, k_whl, k_for, k_brk, k_cont, lo_nil, lo_cons, li_some, as_nm, as_tup, as_0, as_s, f_rt, f_own, f_nx, R.bind_ok, R.of_some, Option.bind_some, Option.map_some, List.length_cons, List.length_nil, List.set_cons_zero, List.set_cons_succ, List.map_cons, List.map_nil, List.replicate, List.cons_append, List.nil_append, if_true, if_false, Bool.false_eq_true, PySem.sizeLine, t, l, ea, va, isi_i, hb, ha, sm]
  | inr ts =>
    rw [z] at l
    have hd := due_good z
    rw [hd] at va sm
    refine ⟨some (.d (.str (tx cs))), some (.d (.lst ts)), S1, ?_, c1⟩
    unfold turnB dueE
    simp [e_kN, e_kB, e_kI, e_kS, e_var, e_glb, e_fnv, e_typ, e_neg, e_bin, e_cmp, e_chn, e_and, e_or, e_not, e_ife, e_tup, e_lst, e_ix, e_slc, e_call, e_bi, e_mt, e_lc, e_dc, e_isE, e_isV, e_attr, e_dyn, e_pm, ra_0, t_isV, t_isE, t_dyn, i_lst, i_tup, i_slc, i_ix, i_bin, k_raise, k_asgP, k_asgX, sp_nil, sp_cons, sx_nil, sx_cons, f_ex, R.bind_ex, t_and, t_or, t_not, t_var, t_cmp, t_chn, t_call, t_bi, t_ix, i_var, i_call, i_bi, i_rng, i_zip, ss_nil, ss_cons, so_none, so_some, ea_nil, ea_cons, an_1, an_2, or_1, or_2, tan_1, tan_2, tor_1, tor_2, tal_0, tal_1, ep_0, ep_1, st_, st2_, tu_nil, tu_c, w_0, w_s, ca_ok, at1, at2_0, at2_1, at4_0, at4_1, at4_2, at4_3, bo_nil, bo_c, io_nil, io_c, is_int, is_intb, is_tup, g_0, g_s, p_d, p_own, p_ref, d_d, d_own, a_d, a_own, a_ref, c_lst, c_dct, pk_nil, pk_cons, sa_nil, sa_cons, ao_nil, ao_cons, b_add, b_sub, b_mul, b_div, b_mod, b_pow, b_cat, n_int, n_bl, cv, c_eq, c_ne, c_lt, c_le, c_gt, c_ge, c_in, c_notIn, eq_int, x_lst, x_tup, x_dct, tr_bl, tr_int, bi_len, bi_lent, bi_abs, bi_int, bi_all, bi_list, bi_listk, bi_listt, bi_tuple, bi_tuplet, io_lst, io_klst, io_tup, k_nil, k_cons, k_asg, k_asgS, k_asgN, k_setix, k_ex, k_ret, k_retN, k_iff, k_whl, k_for, k_brk, k_cont, lo_nil, lo_cons, li_some, as_nm, as_tup, as_0, as_s, f_rt, f_own, f_nx, R.bind_ok, R.of_some, Option.bind_some, Option.map_some, List.length_cons, List.length_nil, List.set_cons_zero, List.set_cons_succ, List.map_cons, List.map_nil, List.replicate, List.cons_append, List.nil_append, if_true, if_false, Bool.false_eq_true, PySem.sizeLine, t, l, ea, va, isi_l, sm]
theorem turn_loop : ∀ (xs : List D) (S : Store) (q : Nat) (a b x y w : Option Val), St S q → q + 100 * xs.length < 2 ^ 60 → ∃ b' x' y' S', loop (fun x E S => (R.of (asgT (.nm 2) x E) S).bind fun E' S => semB (C 39) gs 100000 turnB E' S) xs [a, some (.ref 0), b, x, y, w] S = .ok (.nx, [a, some (.ref 0), b', x', y', w]) S' ∧ St S' (q + 100 * xs.length)
  | [], S, q, a, b, x, y, w, c, h => ⟨b, x, y, S, rfl, c⟩
  | d :: xs, S, q, a, b, x, y, w, c, h => by
    rw [List.length_cons] at h
    obtain ⟨x1, y1, S1, e1, c1⟩ := turn_body S q c (by omega) a (some (.d d)) x y w
    obtain ⟨b2, x2, y2, S2, e2, c2⟩ := turn_loop xs S1 (q + 100) a (some (.d d)) x1 y1 w c1 (by omega)
    refine ⟨b2, x2, y2, S2, ?_, by rw [List.length_cons, show q + 100 * (xs.length + 1) = q + 100 + 100 * xs.length by omega]; exact c2⟩
    rw [lo_cons]
    have a0 : asgT (.nm 2) d [a, some (.ref 0), b, x, y, w] = some [a, some (.ref 0), some (.d d), x, y, w] := rfl
    rw [a0]
    simp only [R.of_some, R.bind_ok, e1]
    exact e2
/-! ### texts without an error -/
def okc (c : Nat) : Bool := isW c || isL c || isD c || isS c
def adj : List Nat → Bool
  | [] => true
  | [x] => okc x
  | x :: y :: r => okc x && !(isL x && isL y) && !(isD x && isD y) && adj (y :: r)
theorem adj_get : ∀ (cs : List Nat) (i c : Nat), adj cs = true → cs[i]? = some c → okc c = true ∧ ∀ d, cs[i + 1]? = some d → (isL c && isL d) = false ∧ (isD c && isD d) = false
  | [], i, c, h, e => by simp at e
  | [x], 0, c, h, e => by
    have e : x = c := by simpa using e
    subst e
    exact ⟨h, fun d hd => by simp at hd⟩
  | [x], i + 1, c, h, e => by simp at e
  | x :: y :: r, 0, c, h, e => by
    have e : x = c := by simpa using e
    subst e
    have h : (okc x && !(isL x && isL y) && !(isD x && isD y) && adj (y :: r)) = true := h
    simp only [Bool.and_eq_true, Bool.not_eq_true'] at h
    refine ⟨h.1.1.1, fun d hd => ?_⟩
    have hd : y = d := by simpa using hd
    subst hd
    exact ⟨h.1.1.2, h.1.2⟩
  | x :: y :: r, i + 1, c, h, e => by
    have h : (okc x && !(isL x && isL y) && !(isD x && isD y) && adj (y :: r)) = true := h
    exact adj_get (y :: r) i c (Bool.and_eq_true_iff.mp h).2 (by simpa using e)
theorem run_one {p : Nat → Bool} {cs : List Nat} {i c : Nat} (e : cs[i]? = some c) (hp : p c = true) (h : ∀ d, cs[i + 1]? = some d → p d = false) : run p (cs.drop i) = 1 := by
  rw [run_yes e hp]
  cases q : cs[i + 1]? with
  | none => rw [run_end (List.getElem?_eq_none_iff.mp q)]
  | some d => rw [run_not q (h d q)]
theorem lex_fine {cs : List Nat} (h : adj cs = true) : ∀ (n i : Nat) (acc : List D), ∃ ts, lex cs n i acc = .inr ts
  | 0, i, acc => ⟨acc, rfl⟩
  | n + 1, i, acc => by
    unfold lex
    cases e : cs[i]? with
    | none => exact ⟨acc, rfl⟩
    | some c =>
      simp only []
      obtain ⟨h1, h2⟩ := adj_get cs i c h e
      by_cases hW : isW c = true
      · rw [if_pos hW]; exact lex_fine h n (i + 1) acc
      · rw [if_neg hW]
        cases q : tokAt cs i c with
        | inr y => obtain ⟨k, v, j⟩ := y; exact lex_fine h n j _
        | inl p =>
          exfalso
          unfold tokAt at q
          by_cases hL : isL c = true
          · rw [if_pos hL, if_neg (by rw [run_one e hL fun d hd => by have := (h2 d hd).1; rw [hL] at this; exact this]; omega)] at q
            cases q
          · rw [if_neg hL] at q
            by_cases hD : isD c = true
            · have r1 := run_one e hD fun d hd => by have := (h2 d hd).2; rw [hD] at this; exact this
              rw [if_pos hD, if_neg (by rw [r1]; omega), if_neg (by rw [r1]; omega)] at q
              cases q
            · rw [if_neg hD] at q
              by_cases hS : isS c = true
              · rw [if_pos hS] at q; cases q
              · unfold okc at h1
                simp [hW, hL, hD, hS] at h1
def goodT (cs : List Nat) : Bool := decide (cs.length ≤ 4000) && (cs.all fun c => decide (c < 1114112)) && adj cs
def finB : List Sx := [.iff (.notE (.call 8 [(.call 11 [(.fnv 0), (.lst [(.var 3)])]), (.lst [(.bi .tuple [(.call 12 [(.var 3)])])])])) [.ret (.kB false)] []]
theorem fin_body (S : Store) {cs : List Nat} (h : goodT cs = true) (a b c d e : Option Val) : semB (C 39) gs 100000 finB [a, b, c, some (.d (.str (tx cs))), d, e] S = .ok (.nx, [a, b, c, some (.d (.str (tx cs))), d, e]) S := by
  unfold goodT at h
  rw [Bool.and_eq_true, Bool.and_eq_true, decide_eq_true_eq, List.all_eq_true] at h
  obtain ⟨⟨hl, hk⟩, ha⟩ := h
  have hk : ∀ c ∈ cs, c < 1114112 := fun c hc => of_decide_eq_true (hk c hc)
  have l := lcut_run 38 S hl hk
  obtain ⟨v, ea, va⟩ := asked_run 33 S hl
  have sm := due_same hl hk 38 S
  obtain ⟨ts, z⟩ := lex_fine ha cs.length 0 []
  rw [z] at l
  rw [due_good z] at va sm
  unfold finB
  simp [e_kN, e_kB, e_kI, e_kS, e_var, e_glb, e_fnv, e_typ, e_neg, e_bin, e_cmp, e_chn, e_and, e_or, e_not, e_ife, e_tup, e_lst, e_ix, e_slc, e_call, e_bi, e_mt, e_lc, e_dc, e_isE, e_isV, e_attr, e_dyn, e_pm, ra_0, t_isV, t_isE, t_dyn, i_lst, i_tup, i_slc, i_ix, i_bin, k_raise, k_asgP, k_asgX, sp_nil, sp_cons, sx_nil, sx_cons, f_ex, R.bind_ex, t_and, t_or, t_not, t_var, t_cmp, t_chn, t_call, t_bi, t_ix, i_var, i_call, i_bi, i_rng, i_zip, ss_nil, ss_cons, so_none, so_some, ea_nil, ea_cons, an_1, an_2, or_1, or_2, tan_1, tan_2, tor_1, tor_2, tal_0, tal_1, ep_0, ep_1, st_, st2_, tu_nil, tu_c, w_0, w_s, ca_ok, at1, at2_0, at2_1, at4_0, at4_1, at4_2, at4_3, bo_nil, bo_c, io_nil, io_c, is_int, is_intb, is_tup, g_0, g_s, p_d, p_own, p_ref, d_d, d_own, a_d, a_own, a_ref, c_lst, c_dct, pk_nil, pk_cons, sa_nil, sa_cons, ao_nil, ao_cons, b_add, b_sub, b_mul, b_div, b_mod, b_pow, b_cat, n_int, n_bl, cv, c_eq, c_ne, c_lt, c_le, c_gt, c_ge, c_in, c_notIn, eq_int, x_lst, x_tup, x_dct, tr_bl, tr_int, bi_len, bi_lent, bi_abs, bi_int, bi_all, bi_list, bi_listk, bi_listt, bi_tuple, bi_tuplet, io_lst, io_klst, io_tup, k_nil, k_cons, k_asg, k_asgS, k_asgN, k_setix, k_ex, k_ret, k_retN, k_iff, k_whl, k_for, k_brk, k_cont, lo_nil, lo_cons, li_some, as_nm, as_tup, as_0, as_s, f_rt, f_own, f_nx, R.bind_ok, R.of_some, Option.bind_some, Option.map_some, List.length_cons, List.length_nil, List.set_cons_zero, List.set_cons_succ, List.map_cons, List.map_nil, List.replicate, List.cons_append, List.nil_append, if_true, if_false, Bool.false_eq_true, PySem.sizeLine, l, ea, va, sm]
theorem fin_loop (S : Store) : ∀ (xs : List (List Nat)) (a b c d e f : Option Val), (∀ x ∈ xs, goodT x = true) → ∃ d', loop (fun x E S => (R.of (asgT (.nm 3) x E) S).bind fun E' S => semB (C 39) gs 100000 finB E' S) (xs.map fun x => D.str (tx x)) [a, b, c, d, e, f] S = .ok (.nx, [a, b, c, d', e, f]) S
  | [], a, b, c, d, e, f, h => ⟨d, rfl⟩
  | x :: xs, a, b, c, d, e, f, h => by
    obtain ⟨d', e'⟩ := fin_loop S xs a b c (some (.d (.str (tx x)))) e f fun y hy => h y (List.mem_cons_of_mem _ hy)
    refine ⟨d', ?_⟩
    rw [List.map_cons, lo_cons]
    have a0 : asgT (.nm 3) (.str (tx x)) [a, b, c, d, e, f] = some [a, b, c, some (.d (.str (tx x))), e, f] := rfl
    rw [a0]
    simp only [R.of_some, R.bind_ok, fin_body S (h x List.mem_cons_self)]
    exact e'
@[irreducible] def rep (k : Nat) (l : List Nat) : List Nat := (List.replicate k l).flatten
theorem g1 : goodT (rep 4000 [32]) = true := by decide +kernel
theorem g2 : goodT (rep 2000 [97, 32]) = true := by decide +kernel
theorem g3 : goodT [] = true := by decide +kernel
theorem g4 : goodT [10] = true := by decide +kernel
theorem g5 : goodT (rep 2000 [49, 59]) = true := by decide +kernel
/-! ### what is refused -/
theorem bad_run (k : Nat) (S : Store) (x : D) (h : C (k + 3) 1 [.d x] S = .ex 2 (.str "text") S) : C (k + 6) 11 [.d (.fn 0), .d (.lst [x])] S = .ok (.d (.str "argument text")) S := by
  refine asked_ex (k + 3) S x (.str "text") "argument text" 2 (by omega) ?_ (word_2 _ _)
  rw [call_d (fd := ⟨1, 1, b0, false⟩) rfl, r_run _ _ _ _ _ _ rfl]
  simp [b0, e_kN, e_kB, e_kI, e_kS, e_var, e_glb, e_fnv, e_typ, e_neg, e_bin, e_cmp, e_chn, e_and, e_or, e_not, e_ife, e_tup, e_lst, e_ix, e_slc, e_call, e_bi, e_mt, e_lc, e_dc, e_isE, e_isV, e_attr, e_dyn, e_pm, ra_0, t_isV, t_isE, t_dyn, i_lst, i_tup, i_slc, i_ix, i_bin, k_raise, k_asgP, k_asgX, sp_nil, sp_cons, sx_nil, sx_cons, f_ex, R.bind_ex, t_and, t_or, t_not, t_var, t_cmp, t_chn, t_call, t_bi, t_ix, i_var, i_call, i_bi, i_rng, i_zip, ss_nil, ss_cons, so_none, so_some, ea_nil, ea_cons, an_1, an_2, or_1, or_2, tan_1, tan_2, tor_1, tor_2, tal_0, tal_1, ep_0, ep_1, st_, st2_, tu_nil, tu_c, w_0, w_s, ca_ok, at1, at2_0, at2_1, at4_0, at4_1, at4_2, at4_3, bo_nil, bo_c, io_nil, io_c, is_int, is_intb, is_tup, g_0, g_s, p_d, p_own, p_ref, d_d, d_own, a_d, a_own, a_ref, c_lst, c_dct, pk_nil, pk_cons, sa_nil, sa_cons, ao_nil, ao_cons, b_add, b_sub, b_mul, b_div, b_mod, b_pow, b_cat, n_int, n_bl, cv, c_eq, c_ne, c_lt, c_le, c_gt, c_ge, c_in, c_notIn, eq_int, x_lst, x_tup, x_dct, tr_bl, tr_int, bi_len, bi_lent, bi_abs, bi_int, bi_all, bi_list, bi_listk, bi_listt, bi_tuple, bi_tuplet, io_lst, io_klst, io_tup, k_nil, k_cons, k_asg, k_asgS, k_asgN, k_setix, k_ex, k_ret, k_retN, k_iff, k_whl, k_for, k_brk, k_cont, lo_nil, lo_cons, li_some, as_nm, as_tup, as_0, as_s, f_rt, f_own, f_nx, R.bind_ok, R.of_some, Option.bind_some, Option.map_some, List.length_cons, List.length_nil, List.set_cons_zero, List.set_cons_succ, List.map_cons, List.map_nil, List.replicate, List.cons_append, List.nil_append, if_true, if_false, Bool.false_eq_true, h]
theorem check_no (k : Nat) (S : Store) (x : D) (h : biD .isinst [x, .ty "str"] = some (.d (.bl false))) : C (k + 1) 1 [.d x] S = .ex 2 (.str "text") S := by
  rw [call_d (fd := ⟨1, 1, b1, false⟩) rfl, r_run _ _ _ _ _ _ rfl]
  simp [b1, e_kN, e_kB, e_kI, e_kS, e_var, e_glb, e_fnv, e_typ, e_neg, e_bin, e_cmp, e_chn, e_and, e_or, e_not, e_ife, e_tup, e_lst, e_ix, e_slc, e_call, e_bi, e_mt, e_lc, e_dc, e_isE, e_isV, e_attr, e_dyn, e_pm, ra_0, t_isV, t_isE, t_dyn, i_lst, i_tup, i_slc, i_ix, i_bin, k_raise, k_asgP, k_asgX, sp_nil, sp_cons, sx_nil, sx_cons, f_ex, R.bind_ex, t_and, t_or, t_not, t_var, t_cmp, t_chn, t_call, t_bi, t_ix, i_var, i_call, i_bi, i_rng, i_zip, ss_nil, ss_cons, so_none, so_some, ea_nil, ea_cons, an_1, an_2, or_1, or_2, tan_1, tan_2, tor_1, tor_2, tal_0, tal_1, ep_0, ep_1, st_, st2_, tu_nil, tu_c, w_0, w_s, ca_ok, at1, at2_0, at2_1, at4_0, at4_1, at4_2, at4_3, bo_nil, bo_c, io_nil, io_c, is_int, is_intb, is_tup, g_0, g_s, p_d, p_own, p_ref, d_d, d_own, a_d, a_own, a_ref, c_lst, c_dct, pk_nil, pk_cons, sa_nil, sa_cons, ao_nil, ao_cons, b_add, b_sub, b_mul, b_div, b_mod, b_pow, b_cat, n_int, n_bl, cv, c_eq, c_ne, c_lt, c_le, c_gt, c_ge, c_in, c_notIn, eq_int, x_lst, x_tup, x_dct, tr_bl, tr_int, bi_len, bi_lent, bi_abs, bi_int, bi_all, bi_list, bi_listk, bi_listt, bi_tuple, bi_tuplet, io_lst, io_klst, io_tup, k_nil, k_cons, k_asg, k_asgS, k_asgN, k_setix, k_ex, k_ret, k_retN, k_iff, k_whl, k_for, k_brk, k_cont, lo_nil, lo_cons, li_some, as_nm, as_tup, as_0, as_s, f_rt, f_own, f_nx, R.bind_ok, R.of_some, Option.bind_some, Option.map_some, List.length_cons, List.length_nil, List.set_cons_zero, List.set_cons_succ, List.map_cons, List.map_nil, List.replicate, List.cons_append, List.nil_append, if_true, if_false, Bool.false_eq_true, h]
theorem check_long (k : Nat) (S : Store) (cs : List Nat) (h : 4000 < cs.length) (h2 : cs.length < 10000) : C (k + 1) 1 [.d (.str (tx cs))] S = .ex 2 (.str "text") S := by
  have ln : biD .len [.str (tx cs)] = some (I ((cs.length : Nat) : Int)) := by
    show (if (tx cs).length ≤ PySem.sizeLine then some (Val.d (.int (tx cs).length)) else none) = _
    rw [if_pos (by rw [tx_len]; exact Nat.le_trans (Nat.le_of_lt h2) (by decide)), tx_len]
  have z : (4000 : Int) < (cs.length : Int) := by omega
  rw [call_d (fd := ⟨1, 1, b1, false⟩) rfl, r_run _ _ _ _ _ _ rfl]
  simp [b1, e_kN, e_kB, e_kI, e_kS, e_var, e_glb, e_fnv, e_typ, e_neg, e_bin, e_cmp, e_chn, e_and, e_or, e_not, e_ife, e_tup, e_lst, e_ix, e_slc, e_call, e_bi, e_mt, e_lc, e_dc, e_isE, e_isV, e_attr, e_dyn, e_pm, ra_0, t_isV, t_isE, t_dyn, i_lst, i_tup, i_slc, i_ix, i_bin, k_raise, k_asgP, k_asgX, sp_nil, sp_cons, sx_nil, sx_cons, f_ex, R.bind_ex, t_and, t_or, t_not, t_var, t_cmp, t_chn, t_call, t_bi, t_ix, i_var, i_call, i_bi, i_rng, i_zip, ss_nil, ss_cons, so_none, so_some, ea_nil, ea_cons, an_1, an_2, or_1, or_2, tan_1, tan_2, tor_1, tor_2, tal_0, tal_1, ep_0, ep_1, st_, st2_, tu_nil, tu_c, w_0, w_s, ca_ok, at1, at2_0, at2_1, at4_0, at4_1, at4_2, at4_3, bo_nil, bo_c, io_nil, io_c, is_int, is_intb, is_tup, g_0, g_s, p_d, p_own, p_ref, d_d, d_own, a_d, a_own, a_ref, c_lst, c_dct, pk_nil, pk_cons, sa_nil, sa_cons, ao_nil, ao_cons, b_add, b_sub, b_mul, b_div, b_mod, b_pow, b_cat, n_int, n_bl, cv, c_eq, c_ne, c_lt, c_le, c_gt, c_ge, c_in, c_notIn, eq_int, x_lst, x_tup, x_dct, tr_bl, tr_int, bi_len, bi_lent, bi_abs, bi_int, bi_all, bi_list, bi_listk, bi_listt, bi_tuple, bi_tuplet, io_lst, io_klst, io_tup, k_nil, k_cons, k_asg, k_asgS, k_asgN, k_setix, k_ex, k_ret, k_retN, k_iff, k_whl, k_for, k_brk, k_cont, lo_nil, lo_cons, li_some, as_nm, as_tup, as_0, as_s, f_rt, f_own, f_nx, R.bind_ok, R.of_some, Option.bind_some, Option.map_some, List.length_cons, List.length_nil, List.set_cons_zero, List.set_cons_succ, List.map_cons, List.map_nil, List.replicate, List.cons_append, List.nil_append, if_true, if_false, Bool.false_eq_true, isi_str, ln, g_2', h, z]
theorem bad_turns (S : Store) (a b c d e f : Option Val) : ∀ (xs : List D) (acc : List D), (∀ x ∈ xs, C 39 11 [.d (.fn 0), .d (.lst [x])] S = .ok (.d (.str "argument text")) S) → turns (.nm 5) [5] (tsAll []) (strict (sem (C 39) gs (.call 11 [(.fnv 0), (.lst [(.var 5)])]))) [a, b, c, d, e, f] xs acc S = .ok (acc ++ List.replicate xs.length (.str "argument text")) S
  | [], acc, h => by simp [tu_nil]
  | x :: xs, acc, h => by
    have ih := bad_turns S a b c d e f xs (acc ++ [.str "argument text"]) fun y hy => h y (List.mem_cons_of_mem _ hy)
    rw [tu_c]
    have a0 : asgT (.nm 5) x (wipeE [a, b, c, d, e, f] [5]) = some [a, b, c, d, e, some (.d x)] := rfl
    rw [a0]
    have hx := h x List.mem_cons_self
    have st : strict (sem (C 39) gs (.call 11 [(.fnv 0), (.lst [(.var 5)])])) [a, b, c, d, e, some (.d x)] S = .ok (.str "argument text") S := by
      rw [st_]
      simp [e_kN, e_kB, e_kI, e_kS, e_var, e_glb, e_fnv, e_typ, e_neg, e_bin, e_cmp, e_chn, e_and, e_or, e_not, e_ife, e_tup, e_lst, e_ix, e_slc, e_call, e_bi, e_mt, e_lc, e_dc, e_isE, e_isV, e_attr, e_dyn, e_pm, ra_0, t_isV, t_isE, t_dyn, i_lst, i_tup, i_slc, i_ix, i_bin, k_raise, k_asgP, k_asgX, sp_nil, sp_cons, sx_nil, sx_cons, f_ex, R.bind_ex, t_and, t_or, t_not, t_var, t_cmp, t_chn, t_call, t_bi, t_ix, i_var, i_call, i_bi, i_rng, i_zip, ss_nil, ss_cons, so_none, so_some, ea_nil, ea_cons, an_1, an_2, or_1, or_2, tan_1, tan_2, tor_1, tor_2, tal_0, tal_1, ep_0, ep_1, st_, st2_, tu_nil, tu_c, w_0, w_s, ca_ok, at1, at2_0, at2_1, at4_0, at4_1, at4_2, at4_3, bo_nil, bo_c, io_nil, io_c, is_int, is_intb, is_tup, g_0, g_s, p_d, p_own, p_ref, d_d, d_own, a_d, a_own, a_ref, c_lst, c_dct, pk_nil, pk_cons, sa_nil, sa_cons, ao_nil, ao_cons, b_add, b_sub, b_mul, b_div, b_mod, b_pow, b_cat, n_int, n_bl, cv, c_eq, c_ne, c_lt, c_le, c_gt, c_ge, c_in, c_notIn, eq_int, x_lst, x_tup, x_dct, tr_bl, tr_int, bi_len, bi_lent, bi_abs, bi_int, bi_all, bi_list, bi_listk, bi_listt, bi_tuple, bi_tuplet, io_lst, io_klst, io_tup, k_nil, k_cons, k_asg, k_asgS, k_asgN, k_setix, k_ex, k_ret, k_retN, k_iff, k_whl, k_for, k_brk, k_cont, lo_nil, lo_cons, li_some, as_nm, as_tup, as_0, as_s, f_rt, f_own, f_nx, R.bind_ok, R.of_some, Option.bind_some, Option.map_some, List.length_cons, List.length_nil, List.set_cons_zero, List.set_cons_succ, List.map_cons, List.map_nil, List.replicate, List.cons_append, List.nil_append, if_true, if_false, Bool.false_eq_true, PySem.sizeLine, hx]
    show ((tsAll [] [a, b, c, d, e, some (.d x)] S).bind _) = _
    rw [tal_0]
    simp only [R.bind_ok, if_true, st, ih]
    rw [List.append_assoc, List.length_cons, List.replicate_succ]
    rfl
end K50

set_option maxHeartbeats 2000000
namespace K50
open Mi
open PySem (Str)
theorem rep_is {x : Str} {l : List Nat} {j : Int} {k : Nat} (hj : j.toNat = k) (hx : x.cps.toList = l) (h : (decide (2 ≤ j) && decide (j < 2 ^ 31) && decide (1 ≤ x.length) && decide (x.length * j.toNat ≤ PySem.sizeLine)) = true) : binD .Mult (.str x) (.int j) = some (.d (.str (tx (rep k l)))) := by
  refine mul_is h ?_
  rw [hx, hj]
  unfold rep tx
  rfl
theorem t1 : binD .Mult (.str " ") (.int 4000) = some (.d (.str (tx (rep 4000 [32])))) := rep_is rfl (by decide) (by decide +kernel)
theorem t2 : binD .Mult (.str "a ") (.int 2000) = some (.d (.str (tx (rep 2000 [97, 32])))) := rep_is rfl (by decide) (by decide +kernel)
theorem t3 : (Str.ofString "") = tx [] := by decide
theorem t4 : (Str.ofString "\n") = tx [10] := by decide
theorem t5 : binD .Mult (.str "1;") (.int 2000) = some (.d (.str (tx (rep 2000 [49, 59])))) := rep_is rfl (by decide) (by decide +kernel)
theorem t6 : binD .Mult (.str " ") (.int 4001) = some (.d (.str (tx (rep 4001 [32])))) := rep_is rfl (by decide) (by decide +kernel)
def texts : List (List Nat) := [rep 4000 [32], rep 2000 [97, 32], [], [10], rep 2000 [49, 59]]
theorem texts_ok : ∀ x ∈ texts, goodT x = true := by
  intro x hx
  unfold texts at hx
  simp only [List.mem_cons, List.not_mem_nil, or_false] at hx
  rcases hx with rfl | rfl | rfl | rfl | rfl
  · exact g1
  · exact g2
  · exact g3
  · exact g4
  · exact g5
theorem len_rep : (rep 4001 [32]).length = 4001 := by
  unfold rep
  rw [List.length_flatten, List.map_replicate, List.sum_replicate_nat]
  rfl
def badL : List D := [.non, .int 5, .tup [.str "a"], .bl true, .str (tx (rep 4001 [32]))]
theorem bad_ok (S : Store) : ∀ x ∈ badL, C 39 11 [.d (.fn 0), .d (.lst [x])] S = .ok (.d (.str "argument text")) S := by
  intro x hx
  refine bad_run 33 S x ?_
  unfold badL at hx
  simp only [List.mem_cons, List.not_mem_nil, or_false] at hx
  rcases hx with rfl | rfl | rfl | rfl | rfl
  · exact check_no 35 S _ rfl
  · exact check_no 35 S _ rfl
  · exact check_no 35 S _ rfl
  · exact check_no 35 S _ rfl
  · exact check_long 35 S _ (by rw [len_rep]; omega) (by rw [len_rep]; omega)
theorem eq_five : eqD (.lst [.str "argument text", .str "argument text", .str "argument text", .str "argument text", .str "argument text"]) (.lst [.str "argument text", .str "argument text", .str "argument text", .str "argument text", .str "argument text"]) = some true := eq_self _ (by decide +kernel) (by decide)
def forT : Sx := .for (.nm 2) (.rng [(.kI 14)]) turnB
def forF : Sx := .for (.nm 3) (.lst [(.bin .Mult (.kS " ") (.kI 4000)), (.bin .Mult (.kS "a ") (.kI 2000)), (.kS ""), (.kS "\n"), (.bin .Mult (.kS "1;") (.kI 2000))]) finB
def lastE : Ex := .cmp .Eq (.lc (.call 11 [(.fnv 0), (.lst [(.var 5)])]) (.nm 5) (.lst [.kN, (.kI 5), (.tup [(.kS "a")]), (.kB true), (.bin .Mult (.kS " ") (.kI 4001))]) [] [5]) (.bin .Mult (.lst [(.kS "argument text")]) (.kI 5))
theorem b14_eq : b14 = [.asgN 1 (.call 5 [(.var 0)]), forT, forF, .ret lastE] := rfl
theorem last_ev (S : Store) (a b c d e f : Option Val) : (sem (C 39) gs lastE).ev [a, b, c, d, e, f] S = .ok (.d (.bl true)) S := by
  have it : (sem (C 39) gs (.lst [.kN, (.kI 5), (.tup [(.kS "a")]), (.kB true), (.bin .Mult (.kS " ") (.kI 4001))])).it [a, b, c, d, e, f] S = .ok badL S := by
    simp [e_kN, e_kB, e_kI, e_kS, e_var, e_glb, e_fnv, e_typ, e_neg, e_bin, e_cmp, e_chn, e_and, e_or, e_not, e_ife, e_tup, e_lst, e_ix, e_slc, e_call, e_bi, e_mt, e_lc, e_dc, e_isE, e_isV, e_attr, e_dyn, e_pm, ra_0, t_isV, t_isE, t_dyn, i_lst, i_tup, i_slc, i_ix, i_bin, k_raise, k_asgP, k_asgX, sp_nil, sp_cons, sx_nil, sx_cons, f_ex, R.bind_ex, t_and, t_or, t_not, t_var, t_cmp, t_chn, t_call, t_bi, t_ix, i_var, i_call, i_bi, i_rng, i_zip, ss_nil, ss_cons, so_none, so_some, ea_nil, ea_cons, an_1, an_2, or_1, or_2, tan_1, tan_2, tor_1, tor_2, tal_0, tal_1, ep_0, ep_1, st_, st2_, tu_nil, tu_c, w_0, w_s, ca_ok, at1, at2_0, at2_1, at4_0, at4_1, at4_2, at4_3, bo_nil, bo_c, io_nil, io_c, is_int, is_intb, is_tup, g_0, g_s, p_d, p_own, p_ref, d_d, d_own, a_d, a_own, a_ref, c_lst, c_dct, pk_nil, pk_cons, sa_nil, sa_cons, ao_nil, ao_cons, b_add, b_sub, b_mul, b_div, b_mod, b_pow, b_cat, n_int, n_bl, cv, c_eq, c_ne, c_lt, c_le, c_gt, c_ge, c_in, c_notIn, eq_int, x_lst, x_tup, x_dct, tr_bl, tr_int, bi_len, bi_lent, bi_abs, bi_int, bi_all, bi_list, bi_listk, bi_listt, bi_tuple, bi_tuplet, io_lst, io_klst, io_tup, k_nil, k_cons, k_asg, k_asgS, k_asgN, k_setix, k_ex, k_ret, k_retN, k_iff, k_whl, k_for, k_brk, k_cont, lo_nil, lo_cons, li_some, as_nm, as_tup, as_0, as_s, f_rt, f_own, f_nx, R.bind_ok, R.of_some, Option.bind_some, Option.map_some, List.length_cons, List.length_nil, List.set_cons_zero, List.set_cons_succ, List.map_cons, List.map_nil, List.replicate, List.cons_append, List.nil_append, if_true, if_false, Bool.false_eq_true, PySem.sizeLine, t6, badL]
  have bt := bad_turns S a b c d e f badL [] (bad_ok S)
  have l : (sem (C 39) gs (.lc (.call 11 [(.fnv 0), (.lst [(.var 5)])]) (.nm 5) (.lst [.kN, (.kI 5), (.tup [(.kS "a")]), (.kB true), (.bin .Mult (.kS " ") (.kI 4001))]) [] [5])).ev [a, b, c, d, e, f] S = .ok (.own (.lst [.str "argument text", .str "argument text", .str "argument text", .str "argument text", .str "argument text"])) S := by
    rw [e_lc, it]
    simp only [R.bind_ok, ss_nil, bt, ca_ok, List.nil_append]
    rfl
  have r : (sem (C 39) gs (.bin .Mult (.lst [(.kS "argument text")]) (.kI 5))).ev [a, b, c, d, e, f] S = .ok (.own (.lst [.str "argument text", .str "argument text", .str "argument text", .str "argument text", .str "argument text"])) S := by
    have m : binD .Mult (.lst [.str "argument text"]) (.int 5) = some (.own (.lst [.str "argument text", .str "argument text", .str "argument text", .str "argument text", .str "argument text"])) := by
      show (if (decide (-(2 ^ 63) ≤ (5 : Int)) && decide ((5 : Int) < 2 ^ 63) && decide ([D.str "argument text"].length * (5 : Int).toNat ≤ PySem.sizeLine)) = true then some (Val.own (.lst (List.replicate (5 : Int).toNat [D.str "argument text"]).flatten)) else none) = _
      rw [if_pos (by decide +kernel)]
      rfl
    simp [e_kN, e_kB, e_kI, e_kS, e_var, e_glb, e_fnv, e_typ, e_neg, e_bin, e_cmp, e_chn, e_and, e_or, e_not, e_ife, e_tup, e_lst, e_ix, e_slc, e_call, e_bi, e_mt, e_lc, e_dc, e_isE, e_isV, e_attr, e_dyn, e_pm, ra_0, t_isV, t_isE, t_dyn, i_lst, i_tup, i_slc, i_ix, i_bin, k_raise, k_asgP, k_asgX, sp_nil, sp_cons, sx_nil, sx_cons, f_ex, R.bind_ex, t_and, t_or, t_not, t_var, t_cmp, t_chn, t_call, t_bi, t_ix, i_var, i_call, i_bi, i_rng, i_zip, ss_nil, ss_cons, so_none, so_some, ea_nil, ea_cons, an_1, an_2, or_1, or_2, tan_1, tan_2, tor_1, tor_2, tal_0, tal_1, ep_0, ep_1, st_, st2_, tu_nil, tu_c, w_0, w_s, ca_ok, at1, at2_0, at2_1, at4_0, at4_1, at4_2, at4_3, bo_nil, bo_c, io_nil, io_c, is_int, is_intb, is_tup, g_0, g_s, p_d, p_own, p_ref, d_d, d_own, a_d, a_own, a_ref, c_lst, c_dct, pk_nil, pk_cons, sa_nil, sa_cons, ao_nil, ao_cons, b_add, b_sub, b_mul, b_div, b_mod, b_pow, b_cat, n_int, n_bl, cv, c_eq, c_ne, c_lt, c_le, c_gt, c_ge, c_in, c_notIn, eq_int, x_lst, x_tup, x_dct, tr_bl, tr_int, bi_len, bi_lent, bi_abs, bi_int, bi_all, bi_list, bi_listk, bi_listt, bi_tuple, bi_tuplet, io_lst, io_klst, io_tup, k_nil, k_cons, k_asg, k_asgS, k_asgN, k_setix, k_ex, k_ret, k_retN, k_iff, k_whl, k_for, k_brk, k_cont, lo_nil, lo_cons, li_some, as_nm, as_tup, as_0, as_s, f_rt, f_own, f_nx, R.bind_ok, R.of_some, Option.bind_some, Option.map_some, List.length_cons, List.length_nil, List.set_cons_zero, List.set_cons_succ, List.map_cons, List.map_nil, List.replicate, List.cons_append, List.nil_append, if_true, if_false, Bool.false_eq_true, PySem.sizeLine, m]
  unfold lastE
  rw [e_cmp, l]
  simp only [R.bind_ok]
  rw [r]
  simp only [e_kN, e_kB, e_kI, e_kS, e_var, e_glb, e_fnv, e_typ, e_neg, e_bin, e_cmp, e_chn, e_and, e_or, e_not, e_ife, e_tup, e_lst, e_ix, e_slc, e_call, e_bi, e_mt, e_lc, e_dc, e_isE, e_isV, e_attr, e_dyn, e_pm, ra_0, t_isV, t_isE, t_dyn, i_lst, i_tup, i_slc, i_ix, i_bin, k_raise, k_asgP, k_asgX, sp_nil, sp_cons, sx_nil, sx_cons, f_ex, R.bind_ex, t_and, t_or, t_not, t_var, t_cmp, t_chn, t_call, t_bi, t_ix, i_var, i_call, i_bi, i_rng, i_zip, ss_nil, ss_cons, so_none, so_some, ea_nil, ea_cons, an_1, an_2, or_1, or_2, tan_1, tan_2, tor_1, tor_2, tal_0, tal_1, ep_0, ep_1, st_, st2_, tu_nil, tu_c, w_0, w_s, ca_ok, at1, at2_0, at2_1, at4_0, at4_1, at4_2, at4_3, bo_nil, bo_c, io_nil, io_c, is_int, is_intb, is_tup, g_0, g_s, p_d, p_own, p_ref, d_d, d_own, a_d, a_own, a_ref, c_lst, c_dct, pk_nil, pk_cons, sa_nil, sa_cons, ao_nil, ao_cons, b_add, b_sub, b_mul, b_div, b_mod, b_pow, b_cat, n_int, n_bl, cv, c_eq, c_ne, c_lt, c_le, c_gt, c_ge, c_in, c_notIn, eq_int, x_lst, x_tup, x_dct, tr_bl, tr_int, bi_len, bi_lent, bi_abs, bi_int, bi_all, bi_list, bi_listk, bi_listt, bi_tuple, bi_tuplet, io_lst, io_klst, io_tup, k_nil, k_cons, k_asg, k_asgS, k_asgN, k_setix, k_ex, k_ret, k_retN, k_iff, k_whl, k_for, k_brk, k_cont, lo_nil, lo_cons, li_some, as_nm, as_tup, as_0, as_s, f_rt, f_own, f_nx, R.bind_ok, R.of_some, Option.bind_some, Option.map_some, List.length_cons, List.length_nil, List.set_cons_zero, List.set_cons_succ, List.map_cons, List.map_nil, List.replicate, List.cons_append, List.nil_append, if_true, if_false, Bool.false_eq_true, eq_five]
end K50

set_option maxHeartbeats 2000000
namespace K50
open Mi
open PySem (Str)
theorem for_run {Fs : Fns} {tg : Tg} {it : Ex} {b : List Sx} {E : Env} {S S1 : Store} {xs : List D} {r : R (Fl × Env)} (hi : (sem Fs gs it).it E S = .ok xs S1) (hr : loop (fun x E S => (R.of (asgT tg x E) S).bind fun E' S => semB Fs gs 100000 b E' S) xs E S1 = r) : semS Fs gs 100000 (.for tg it b) E S = r := by
  rw [k_for, hi]
  exact hr
theorem cons_run {Fs : Fns} {s : Sx} {r : List Sx} {E E' : Env} {S S1 : Store} {x : R (Fl × Env)} (h : semS Fs gs 100000 s E S = .ok (.nx, E') S1) (hr : semB Fs gs 100000 r E' S1 = x) : semB Fs gs 100000 (s :: r) E S = x := by
  rw [k_cons, h]
  exact hr
theorem ret_run {Fs : Fns} {e : Ex} {E : Env} {S : Store} {v : Val} (h : (sem Fs gs e).ev E S = .ok v S) : semB Fs gs 100000 [.ret e] E S = .ok (.rt v, E) S := by
  rw [k_cons, k_ret, h]
  rfl
theorem law (ns : List Int) (h : ns.length ≤ 63) (hb : ∀ z ∈ ns, PySem.Builtin.Int.intBits z ≤ 1048576) : ∃ S', callF (rows.map (·.fd)) gs 100000 40 14 [.d (kInts ns)] [] = .ok (.d (.bl true)) S' := by
  obtain ⟨_, c, e5, c0⟩ := start_run 38 ns h
  obtain ⟨b1', x1, y1, S1, e1, c1⟩ := turn_loop (upTo 0 14) [c] 0 (some (.d (kInts ns))) none none none none c0 (by rw [upTo_len]; omega)
  obtain ⟨d2, e2⟩ := fin_loop S1 texts (some (.d (kInts ns))) (some (.ref 0)) b1' x1 y1 none texts_ok
  refine ⟨[], ?_⟩
  show C 40 14 [.d (kInts ns)] [] = _
  rw [call_d (fd := ⟨1, 6, b14, false⟩) rfl, r_run _ _ _ _ _ _ rfl]
  show fin 0 (semB (C 39) gs 100000 b14 [some (.d (kInts ns)), none, none, none, none, none] []) = _
  have e5 : C 39 5 [.d (kInts ns)] [] = .ok (.own c) [] := e5
  have s0 : semS (C 39) gs 100000 (.asgN 1 (.call 5 [(.var 0)])) [some (.d (kInts ns)), none, none, none, none, none] [] = .ok (.nx, [some (.d (kInts ns)), some (.ref 0), none, none, none, none]) [c] := by
    simp [e_kN, e_kB, e_kI, e_kS, e_var, e_glb, e_fnv, e_typ, e_neg, e_bin, e_cmp, e_chn, e_and, e_or, e_not, e_ife, e_tup, e_lst, e_ix, e_slc, e_call, e_bi, e_mt, e_lc, e_dc, e_isE, e_isV, e_attr, e_dyn, e_pm, ra_0, t_isV, t_isE, t_dyn, i_lst, i_tup, i_slc, i_ix, i_bin, k_raise, k_asgP, k_asgX, sp_nil, sp_cons, sx_nil, sx_cons, f_ex, R.bind_ex, t_and, t_or, t_not, t_var, t_cmp, t_chn, t_call, t_bi, t_ix, i_var, i_call, i_bi, i_rng, i_zip, ss_nil, ss_cons, so_none, so_some, ea_nil, ea_cons, an_1, an_2, or_1, or_2, tan_1, tan_2, tor_1, tor_2, tal_0, tal_1, ep_0, ep_1, st_, st2_, tu_nil, tu_c, w_0, w_s, ca_ok, at1, at2_0, at2_1, at4_0, at4_1, at4_2, at4_3, bo_nil, bo_c, io_nil, io_c, is_int, is_intb, is_tup, g_0, g_s, p_d, p_own, p_ref, d_d, d_own, a_d, a_own, a_ref, c_lst, c_dct, pk_nil, pk_cons, sa_nil, sa_cons, ao_nil, ao_cons, b_add, b_sub, b_mul, b_div, b_mod, b_pow, b_cat, n_int, n_bl, cv, c_eq, c_ne, c_lt, c_le, c_gt, c_ge, c_in, c_notIn, eq_int, x_lst, x_tup, x_dct, tr_bl, tr_int, bi_len, bi_lent, bi_abs, bi_int, bi_all, bi_list, bi_listk, bi_listt, bi_tuple, bi_tuplet, io_lst, io_klst, io_tup, k_nil, k_cons, k_asg, k_asgS, k_asgN, k_setix, k_ex, k_ret, k_retN, k_iff, k_whl, k_for, k_brk, k_cont, lo_nil, lo_cons, li_some, as_nm, as_tup, as_0, as_s, f_rt, f_own, f_nx, R.bind_ok, R.of_some, Option.bind_some, Option.map_some, List.length_cons, List.length_nil, List.set_cons_zero, List.set_cons_succ, List.map_cons, List.map_nil, List.replicate, List.cons_append, List.nil_append, if_true, if_false, Bool.false_eq_true, e5]
  have s1 : semS (C 39) gs 100000 forT [some (.d (kInts ns)), some (.ref 0), none, none, none, none] [c] = .ok (.nx, [some (.d (kInts ns)), some (.ref 0), b1', x1, y1, none]) S1 := by
    unfold forT
    have it : (sem (C 39) gs (.rng [(.kI 14)])).it [some (.d (kInts ns)), some (.ref 0), none, none, none, none] [c] = .ok (upTo 0 14) [c] := by
      have rd : rngD [.int 14] = some (upTo 0 14) := by
        show (if (decide (-(2 ^ 62) ≤ (14 : Int)) && decide ((14 : Int) < 2 ^ 62) && decide ((14 : Int) ≤ PySem.sizeLine)) = true then some (upTo 0 (14 : Int).toNat) else none) = _
        rw [if_pos (by decide +kernel)]
        rfl
      rw [i_rng]
      simp [e_kN, e_kB, e_kI, e_kS, e_var, e_glb, e_fnv, e_typ, e_neg, e_bin, e_cmp, e_chn, e_and, e_or, e_not, e_ife, e_tup, e_lst, e_ix, e_slc, e_call, e_bi, e_mt, e_lc, e_dc, e_isE, e_isV, e_attr, e_dyn, e_pm, ra_0, t_isV, t_isE, t_dyn, i_lst, i_tup, i_slc, i_ix, i_bin, k_raise, k_asgP, k_asgX, sp_nil, sp_cons, sx_nil, sx_cons, f_ex, R.bind_ex, t_and, t_or, t_not, t_var, t_cmp, t_chn, t_call, t_bi, t_ix, i_var, i_call, i_bi, i_rng, i_zip, ss_nil, ss_cons, so_none, so_some, ea_nil, ea_cons, an_1, an_2, or_1, or_2, tan_1, tan_2, tor_1, tor_2, tal_0, tal_1, ep_0, ep_1, st_, st2_, tu_nil, tu_c, w_0, w_s, ca_ok, at1, at2_0, at2_1, at4_0, at4_1, at4_2, at4_3, bo_nil, bo_c, io_nil, io_c, is_int, is_intb, is_tup, g_0, g_s, p_d, p_own, p_ref, d_d, d_own, a_d, a_own, a_ref, c_lst, c_dct, pk_nil, pk_cons, sa_nil, sa_cons, ao_nil, ao_cons, b_add, b_sub, b_mul, b_div, b_mod, b_pow, b_cat, n_int, n_bl, cv, c_eq, c_ne, c_lt, c_le, c_gt, c_ge, c_in, c_notIn, eq_int, x_lst, x_tup, x_dct, tr_bl, tr_int, bi_len, bi_lent, bi_abs, bi_int, bi_all, bi_list, bi_listk, bi_listt, bi_tuple, bi_tuplet, io_lst, io_klst, io_tup, k_nil, k_cons, k_asg, k_asgS, k_asgN, k_setix, k_ex, k_ret, k_retN, k_iff, k_whl, k_for, k_brk, k_cont, lo_nil, lo_cons, li_some, as_nm, as_tup, as_0, as_s, f_rt, f_own, f_nx, R.bind_ok, R.of_some, Option.bind_some, Option.map_some, List.length_cons, List.length_nil, List.set_cons_zero, List.set_cons_succ, List.map_cons, List.map_nil, List.replicate, List.cons_append, List.nil_append, if_true, if_false, Bool.false_eq_true, rd]
    exact for_run it e1
  have s2 : semS (C 39) gs 100000 forF [some (.d (kInts ns)), some (.ref 0), b1', x1, y1, none] S1 = .ok (.nx, [some (.d (kInts ns)), some (.ref 0), b1', d2, y1, none]) S1 := by
    unfold forF
    have it : (sem (C 39) gs (.lst [(.bin .Mult (.kS " ") (.kI 4000)), (.bin .Mult (.kS "a ") (.kI 2000)), (.kS ""), (.kS "\n"), (.bin .Mult (.kS "1;") (.kI 2000))])).it [some (.d (kInts ns)), some (.ref 0), b1', x1, y1, none] S1 = .ok (texts.map fun x => D.str (tx x)) S1 := by
      simp [e_kN, e_kB, e_kI, e_kS, e_var, e_glb, e_fnv, e_typ, e_neg, e_bin, e_cmp, e_chn, e_and, e_or, e_not, e_ife, e_tup, e_lst, e_ix, e_slc, e_call, e_bi, e_mt, e_lc, e_dc, e_isE, e_isV, e_attr, e_dyn, e_pm, ra_0, t_isV, t_isE, t_dyn, i_lst, i_tup, i_slc, i_ix, i_bin, k_raise, k_asgP, k_asgX, sp_nil, sp_cons, sx_nil, sx_cons, f_ex, R.bind_ex, t_and, t_or, t_not, t_var, t_cmp, t_chn, t_call, t_bi, t_ix, i_var, i_call, i_bi, i_rng, i_zip, ss_nil, ss_cons, so_none, so_some, ea_nil, ea_cons, an_1, an_2, or_1, or_2, tan_1, tan_2, tor_1, tor_2, tal_0, tal_1, ep_0, ep_1, st_, st2_, tu_nil, tu_c, w_0, w_s, ca_ok, at1, at2_0, at2_1, at4_0, at4_1, at4_2, at4_3, bo_nil, bo_c, io_nil, io_c, is_int, is_intb, is_tup, g_0, g_s, p_d, p_own, p_ref, d_d, d_own, a_d, a_own, a_ref, c_lst, c_dct, pk_nil, pk_cons, sa_nil, sa_cons, ao_nil, ao_cons, b_add, b_sub, b_mul, b_div, b_mod, b_pow, b_cat, n_int, n_bl, cv, c_eq, c_ne, c_lt, c_le, c_gt, c_ge, c_in, c_notIn, eq_int, x_lst, x_tup, x_dct, tr_bl, tr_int, bi_len, bi_lent, bi_abs, bi_int, bi_all, bi_list, bi_listk, bi_listt, bi_tuple, bi_tuplet, io_lst, io_klst, io_tup, k_nil, k_cons, k_asg, k_asgS, k_asgN, k_setix, k_ex, k_ret, k_retN, k_iff, k_whl, k_for, k_brk, k_cont, lo_nil, lo_cons, li_some, as_nm, as_tup, as_0, as_s, f_rt, f_own, f_nx, R.bind_ok, R.of_some, Option.bind_some, Option.map_some, List.length_cons, List.length_nil, List.set_cons_zero, List.set_cons_succ, List.map_cons, List.map_nil, List.replicate, List.cons_append, List.nil_append, if_true, if_false, Bool.false_eq_true, PySem.sizeLine, t1, t2, t3, t4, t5, texts]
    exact for_run it e2
  have all : semB (C 39) gs 100000 b14 [some (.d (kInts ns)), none, none, none, none, none] [] = .ok (.rt (.d (.bl true)), [some (.d (kInts ns)), some (.ref 0), b1', d2, y1, none]) S1 := by
    rw [b14_eq]
    exact cons_run s0 (cons_run s1 (cons_run s2 (ret_run (last_ev S1 _ _ _ _ _ _))))
  rw [all]
  rfl
end K50

open PySem PySem.W PyProof.Rows
set_option maxHeartbeats 0 in
theorem PySem.Challenge.cw_oneplainroll_k50_lexing_holds : PySem.Challenge.rw_oneplainroll_k50_lexing.Holds := by
  w_on; o_law; k_head; (case hw => w_witness2)
  k_fill
  refine Mi.walk_law (l := PySem.Challenge.rw_oneplainroll_k50_lexing) (n := 63) (k := 40) (x := "script") (T := K50.tb) (rows := K50.rows) (Gs := K50.gs) (Wn := 100000) (fi := 14) rfl (by decide) rfl ⟨rfl, by decide, by decide⟩ rfl (fun w h Y => PySem.W.kIn_of Y) rfl K50.rows_ok K50.hot_ok K50.leaf_ok ⟨_, rfl, rfl, rfl⟩ ?F K50.law
  case F =>
    intro w
    refine' K50.all_mk ?a0 ?l0 ?c0 ?k0 ?a1 ?l1 ?c1 ?k1 ?a2 ?l2 ?c2 ?k2 ?a3 ?l3 ?c3 ?k3 ?a4 ?l4 ?c4 ?k4 ?a5 ?l5 ?c5 ?k5 ?a6 ?l6 ?c6 ?k6 ?a7 ?l7 ?c7 ?k7 ?a8 ?l8 ?c8 ?k8 ?a9 ?l9 ?c9 ?k9 ?a10 ?l10 ?c10 ?k10 ?a11 ?l11 ?c11 ?k11 ?a12 ?l12 ?c12 ?k12 ?a13 ?l13 ?c13 ?k13 ?a14 ?l14 ?c14 ?k14 ?h0 ?h1 ?h2 ?h3 ?h4 ?h5 ?z0 ?z1 ?z2 ?z3 ?z4 ?z5 ?z6 ?z7 ?z8 ?z9 ?yn0 ?yn1 ?yn2 ?yn3 ?yn4 ?yn5 ?yhn ?yht ?ycl0 ?yty0 ?yga0 ?ygg0 ?yex0 ?yha0 ?yhm0 ?yhd0 ?yno0 ?yki0 ?ysb0_0 ?ysb0_1 ?ysb0_2 ?ysb0_3 ?ysb0_4 ?ysb0_5 ?ycl1 ?yty1 ?yga1 ?ygg1 ?yex1 ?yha1 ?yhm1 ?yhd1 ?yno1 ?yki1 ?ysb1_0 ?ysb1_1 ?ysb1_2 ?ysb1_3 ?ysb1_4 ?ysb1_5 ?ycl2 ?yty2 ?yga2 ?ygg2 ?yex2 ?yha2 ?yhm2 ?yhd2 ?yno2 ?yki2 ?ysb2_0 ?ysb2_1 ?ysb2_2 ?ysb2_3 ?ysb2_4 ?ysb2_5 ?ycl3 ?yty3 ?yga3 ?ygg3 ?yex3 ?yha3 ?yhm3 ?yhd3 ?yno3 ?yki3 ?ysb3_0 ?ysb3_1 ?ysb3_2 ?ysb3_3 ?ysb3_4 ?ysb3_5 ?ycl4 ?yty4 ?yga4 ?ygg4 ?yex4 ?yha4 ?yhm4 ?yhd4 ?yno4 ?yki4 ?ysb4_0 ?ysb4_1 ?ysb4_2 ?ysb4_3 ?ysb4_4 ?ysb4_5 ?ycl5 ?yty5 ?yga5 ?ygg5 ?yex5 ?yha5 ?yhm5 ?yhd5 ?yno5 ?yki5 ?ysb5_0 ?ysb5_1 ?ysb5_2 ?ysb5_3 ?ysb5_4 ?ysb5_5 ?ysu ?yop ?yto ?yC_1 ?yB_1 ?ysa_1 ?yiC_1 ?ytC_1 ?ykC_1 ?ymC_1 ?yal_1 ?yl_1 ?ycd_1 ?yln_1 ?ylk_1 ?ylf_1 ?yle_1 ?yce_1 ?yC_2 ?yB_2 ?ysa_2 ?yiC_2 ?ytC_2 ?ykC_2 ?ymC_2 ?yal_2 ?yl_2 ?ycd_2 ?yln_2 ?ylk_2 ?ylf_2 ?yle_2 ?yce_2
    (case a0 => k_is)
    (case l0 => k_is)
    (case c0 => k_is)
    (case k0 => k_is)
    (case a1 => k_is)
    (case l1 => k_is)
    (case c1 => k_is)
    (case k1 => k_is)
    (case a2 => k_is)
    (case l2 => k_is)
    (case c2 => k_is)
    (case k2 => k_is)
    (case a3 => k_is)
    (case l3 => k_is)
    (case c3 => k_is)
    (case k3 => k_is)
    (case a4 => k_is)
    (case l4 => k_is)
    (case c4 => k_is)
    (case k4 => k_is)
    (case a5 => k_is)
    (case l5 => k_is)
    (case c5 => k_is)
    (case k5 => k_is)
    (case a6 => k_is)
    (case l6 => k_is)
    (case c6 => k_is)
    (case k6 => k_is)
    (case a7 => k_is)
    (case l7 => k_is)
    (case c7 => k_is)
    (case k7 => k_is)
    (case a8 => k_is)
    (case l8 => k_is)
    (case c8 => k_is)
    (case k8 => k_is)
    (case a9 => k_is)
    (case l9 => k_is)
    (case c9 => k_is)
    (case k9 => k_is)
    (case a10 => k_is)
    (case l10 => k_is)
    (case c10 => k_is)
    (case k10 => k_is)
    (case a11 => k_is)
    (case l11 => k_is)
    (case c11 => k_is)
    (case k11 => k_is)
    (case a12 => k_is)
    (case l12 => k_is)
    (case c12 => k_is)
    (case k12 => k_is)
    (case a13 => k_is)
    (case l13 => k_is)
    (case c13 => k_is)
    (case k13 => k_is)
    (case a14 => k_is)
    (case l14 => k_is)
    (case c14 => k_is)
    (case k14 => k_is)
    (case h0 => k_is)
    (case h1 => k_is)
    (case h2 => k_is)
    (case h3 => k_is)
    (case h4 => k_is)
    (case h5 => k_is)
    (case z0 => k_is)
    (case z1 => k_is)
    (case z2 => k_is)
    (case z3 => k_is)
    (case z4 => k_is)
    (case z5 => k_is)
    (case z6 => k_is)
    (case z7 => k_is)
    (case z8 => k_is)
    (case z9 => k_is)
    (case yn0 => k_is)
    (case yn1 => k_is)
    (case yn2 => k_is)
    (case yn3 => k_is)
    (case yn4 => k_is)
    (case yn5 => k_is)
    (case yhn => k_is)
    (case yht => k_is)
    (case ycl0 => k_is)
    (case yty0 => k_is)
    (case yga0 => k_is)
    (case ygg0 => k_is)
    (case yex0 => k_is)
    (case yha0 => k_is)
    (case yhm0 => k_is)
    (case yhd0 => k_is)
    (case yno0 => k_is)
    (case yki0 => k_is)
    (case ysb0_0 => k_is)
    (case ysb0_1 => k_is)
    (case ysb0_2 => k_is)
    (case ysb0_3 => k_is)
    (case ysb0_4 => k_is)
    (case ysb0_5 => k_is)
    (case ycl1 => k_is)
    (case yty1 => k_is)
    (case yga1 => k_is)
    (case ygg1 => k_is)
    (case yex1 => k_is)
    (case yha1 => k_is)
    (case yhm1 => k_is)
    (case yhd1 => k_is)
    (case yno1 => k_is)
    (case yki1 => k_is)
    (case ysb1_0 => k_is)
    (case ysb1_1 => k_is)
    (case ysb1_2 => k_is)
    (case ysb1_3 => k_is)
    (case ysb1_4 => k_is)
    (case ysb1_5 => k_is)
    (case ycl2 => k_is)
    (case yty2 => k_is)
    (case yga2 => k_is)
    (case ygg2 => k_is)
    (case yex2 => k_is)
    (case yha2 => k_is)
    (case yhm2 => k_is)
    (case yhd2 => k_is)
    (case yno2 => k_is)
    (case yki2 => k_is)
    (case ysb2_0 => k_is)
    (case ysb2_1 => k_is)
    (case ysb2_2 => k_is)
    (case ysb2_3 => k_is)
    (case ysb2_4 => k_is)
    (case ysb2_5 => k_is)
    (case ycl3 => k_is)
    (case yty3 => k_is)
    (case yga3 => k_is)
    (case ygg3 => k_is)
    (case yex3 => k_is)
    (case yha3 => k_is)
    (case yhm3 => k_is)
    (case yhd3 => k_is)
    (case yno3 => k_is)
    (case yki3 => k_is)
    (case ysb3_0 => k_is)
    (case ysb3_1 => k_is)
    (case ysb3_2 => k_is)
    (case ysb3_3 => k_is)
    (case ysb3_4 => k_is)
    (case ysb3_5 => k_is)
    (case ycl4 => k_is)
    (case yty4 => k_is)
    (case yga4 => k_is)
    (case ygg4 => k_is)
    (case yex4 => k_is)
    (case yha4 => k_is)
    (case yhm4 => k_is)
    (case yhd4 => k_is)
    (case yno4 => k_is)
    (case yki4 => k_is)
    (case ysb4_0 => k_is)
    (case ysb4_1 => k_is)
    (case ysb4_2 => k_is)
    (case ysb4_3 => k_is)
    (case ysb4_4 => k_is)
    (case ysb4_5 => k_is)
    (case ycl5 => k_is)
    (case yty5 => k_is)
    (case yga5 => k_is)
    (case ygg5 => k_is)
    (case yex5 => k_is)
    (case yha5 => k_is)
    (case yhm5 => k_is)
    (case yhd5 => k_is)
    (case yno5 => k_is)
    (case yki5 => k_is)
    (case ysb5_0 => k_is)
    (case ysb5_1 => k_is)
    (case ysb5_2 => k_is)
    (case ysb5_3 => k_is)
    (case ysb5_4 => k_is)
    (case ysb5_5 => k_is)
    (case ysu => k_is)
    (case yop => k_is)
    (case yto => first | rfl | decide +kernel | k_is)
    (case yC_1 => k_is)
    (case yB_1 => first | rfl | decide +kernel | k_is)
    (case ysa_1 => k_is)
    (case yiC_1 => k_is)
    (case ytC_1 => k_is)
    (case ykC_1 => k_is)
    (case ymC_1 => k_is)
    (case yal_1 => ks_is)
    (case yl_1 => k_is)
    (case ycd_1 => k_is)
    (case yln_1 => first | rfl | decide +kernel | k_is)
    (case ylk_1 => k_is)
    (case ylf_1 => first | rfl | decide +kernel | k_is)
    (case yle_1 => first | rfl | decide +kernel | k_is)
    (case yce_1 => k_is)
    (case yC_2 => k_is)
    (case yB_2 => first | rfl | decide +kernel | k_is)
    (case ysa_2 => k_is)
    (case yiC_2 => k_is)
    (case ytC_2 => k_is)
    (case ykC_2 => k_is)
    (case ymC_2 => k_is)
    (case yal_2 => ks_is)
    (case yl_2 => k_is)
    (case ycd_2 => k_is)
    (case yln_2 => first | rfl | decide +kernel | k_is)
    (case ylk_2 => k_is)
    (case ylf_2 => first | rfl | decide +kernel | k_is)
    (case yle_2 => first | rfl | decide +kernel | k_is)
    (case yce_2 => k_is)
