import PyProof.Rows.All
import Wide.All
import OpenK.AllK
import Wide.FinOn
import HandS.ForMost
import HandS.Wide
import HandS.Style
import HandS.Deep
import KE.SortData
import KE.KSortAsk
import KE.LtSeq
import KE.SortCalls
import HandS.IsInst
import HandS.HeadHook1
import HandS.TupMul
import HandS.TupAny
import KE.KTupSum
import HandS.WideBits
import HandS.More
import HandS.FStr
import HandS.TryOnly
import HandS.Defaults
import KE.GoesMore
import HandS.HeadEnd
import HandS.Head0
import HandS.Head1
import HandS.Head2
import HandS.HeadHook2
import HandS.HeadHook3
import HandS.HeadHook4
import HandS.Text
import PySem.Challenge.RW_timesagain_k03_signs_layers_places
set_option Elab.async false
set_option linter.all false
namespace Iv
open PySem

/-- data: tuples and lists are values; a list that may change stands in the store, at a place -/
inductive D where
  | non | bl (b : Bool) | int (i : Int) | str (x : Str) | tup (xs : List D) | lst (xs : List D) | ref (i : Nat)
  /-- what an object's entry in the store begins with: its class, its attributes' names -/
  | cl (x : Str) (ns : List Str)
  /-- a dict, of which nothing is known but that it is one -/
  | dct
  deriving Inhabited

mutual
def D.py : D → PyData
  | .non => .none
  | .bl b => .bool b
  | .int i => .int i
  | .str x => .str x
  | .tup xs => .tuple (D.pys xs)
  | .lst xs => .list (D.pys xs)
  | .ref _ => .none
  | .cl _ _ => .none
  | .dct => .none
def D.pys : List D → List PyData
  | [] => []
  | x :: xs => D.py x :: D.pys xs
end
mutual
/-- no place of the store within -/
def D.pure : D → Bool
  | .tup xs => D.pures xs
  | .lst xs => D.pures xs
  | .ref _ => false
  | .cl _ _ => false
  | .dct => false
  | _ => true
def D.pures : List D → Bool
  | [] => true
  | x :: xs => D.pure x && D.pures xs
end
mutual
/-- all places within stand below n -/
def D.under (n : Nat) : D → Bool
  | .tup xs => D.unders n xs
  | .lst xs => D.unders n xs
  | .ref i => decide (i < n)
  | _ => true
def D.unders (n : Nat) : List D → Bool
  | [] => true
  | x :: xs => D.under n x && D.unders n xs
end
/-- what == takes: no places, signs that are such, not too deep -/
def D.ok (d : D) : Bool := d.pure && d.py.canLay0 && decide (d.py.depth ≤ 190)
def D.eqv (a b : D) : Bool := PyData.eqv a.py b.py
/-- None, truths, integers, texts -/
def D.flat : D → Bool
  | .non => true
  | .bl _ => true
  | .int _ => true
  | .str _ => true
  | _ => false

abbrev Env := List (Option D)
abbrev Sto := List (Option (List D))

/-- a list at a place is seen as what it holds -/
def isObj : List D → Bool
  | .cl _ _ :: _ => true
  | _ => false
def see (S : Sto) : D → Option D
  | .ref i => match S[i]? with
    | some (some xs) => if isObj xs then none else some (.lst xs)
    | _ => none
  | d => some d

inductive BI where
  | len | int | abs | tuple | list | all | any | sum | max2 | str | repr | sorted | maxl
  deriving DecidableEq
inductive Ty where
  | int | bool | str | list | tuple | dict
  deriving DecidableEq
inductive ME where
  | append | pop | popAt | extend | index | join | lower | isalpha | isalnum | split
  deriving DecidableEq
inductive Tg where
  | n (i : Nat) | t (is : List Nat)
mutual
inductive E where
  | v (i : Nat)
  | frz (i : Nat)
  | frzD (i : Nat)
  | c (d : D)
  | g (x : Str) (d : D)
  | op (o : Operator) (a b : E)
  | neg (a : E)
  | cmp (o : CmpOp) (a b : E)
  | chain (o p : CmpOp) (a b c : E)
  | and (a b : E)
  | or (a b : E)
  | not (a : E)
  | ite (c a b : E)
  | tup (es : Es)
  | lst (es : Es)
  | new (es : Es)
  | ix (a i : E)
  | sl (a lo hi : E)
  | call (f : Nat) (es : Es)
  | callK (f : Nat) (es kes : Es) (pm : List Nat)
  | bi (b : BI) (es : Es)
  | mk (es : Es)
  | fmt (a : E)
  | js (es : Es)
  | sset (a : E)
  | comp (mt : Bool) (t : Tg) (it : E) (elt : E)
  | compI (mt : Bool) (t : Tg) (it : E) (cond elt : E)
  | comp2 (mt : Bool) (t : Tg) (it : E) (t2 : Tg) (it2 elt : E)
  | bits (a : E)
  | fld (x : Str) (o : E) (f : Str)
  | mko (x : Str) (f : Nat) (es : Es)
  | mcall (x m : Str) (f : Nat) (o : E) (es : Es)
  | meth (m : ME) (o : E) (es : Es)
  | isi (e : E) (tys : List Ty)
  | rng (a b : E)
  | zip (a b : E)
  | enum (a : E)
  | zipT (a b : E)
  | dct (kvs : List (Str × Str))
  | stp (a : E) (k : Nat)
inductive Es where
  | nil
  | cons (e : E) (es : Es)
  | star (e : E) (es : Es)
end
mutual
inductive St where
  | asg (t : Tg) (e : E)
  | par (is : List Nat) (es : Es)
  | put (o i e : E)
  | setf (x : Str) (o : E) (f : Str) (e : E)
  | ex (e : E)
  | ret (e : E)
  | ifs (c : E) (a b : Ss)
  | for (t : Tg) (it : E) (b : Ss)
  | wh (c : E) (b : Ss)
  | never
  | frz (i : Nat)
  | frzD (i : Nat)
  | pass
  | brk
  | cnt
inductive Ss where
  | nil
  | cons (s : St) (ss : Ss)
end

/-- texts one behind the other -/
def catS : Str → List Str → Str
  | acc, [] => acc
  | acc, y :: ys => catS (acc ++ y) ys
def small (n : Nat) : Bool := decide (n ≤ 100000)

/-- what a loop walks -/
def items : D → Option (List D)
  | .lst xs => some xs
  | .tup xs => some xs
  | .str x => some (x.cps.toList.map fun c => .str ⟨#[c]⟩)
  | _ => none

def ints? : List D → Option (List Int)
  | [] => some []
  | .int i :: r => (ints? r).map (i :: ·)
  | _ :: _ => none
def bls? : List D → Option (List Bool)
  | [] => some []
  | .bl b :: r => (bls? r).map (b :: ·)
  | _ :: _ => none
def strs? : List D → Option (List Str)
  | [] => some []
  | .str x :: r => (strs? r).map (x :: ·)
  | _ :: _ => none

/-- one behind the other, the store handed on -/
def mapS (f : D → Sto → Option (D × Sto)) : List D → Sto → Option (List D × Sto)
  | [], S => some ([], S)
  | x :: xs, S => match f x S with
    | none => none
    | some (y, S1) => match mapS f xs S1 with
      | none => none
      | some (ys, S2) => some (y :: ys, S2)
/-- all the way in, lists that will not change any more are seen as values -/
def deep : Nat → D → Sto → Option (D × Sto)
  | 0, _, _ => none
  | n + 1, .ref j, S => match S[j]? with
    | some (some xs) => if isObj xs then none else (match mapS (deep n) xs (S.set j none) with
      | some (ys, S1) => some (.lst ys, S1)
      | none => none)
    | _ => none
  | n + 1, .lst xs, S => match mapS (deep n) xs S with
    | some (ys, S1) => some (.lst ys, S1)
    | none => none
  | n + 1, .tup xs, S => match mapS (deep n) xs S with
    | some (ys, S1) => some (.tup ys, S1)
    | none => none
  | _ + 1, d, S => some (d, S)

/-- a op b -/
def opD (o : Operator) (x y : D) : Option D :=
  match o, x, y with
  | .Add, .int i, .int j => some (.int (i + j))
  | .Sub, .int i, .int j => some (.int (i - j))
  | .Mult, .int i, .int j => if (decide (i.natAbs < 2 ^ 63) || decide (j.natAbs < 2 ^ 63)) || (decide (i.natAbs < 2 ^ 400000) && decide (j.natAbs < 2 ^ 400000)) then some (.int (i * j)) else none
  | .FloorDiv, .int i, .int j => if decide (0 < j) && decide (j.natAbs < 2 ^ 8000) then some (.int (i / j)) else none
  | .Mod, .int i, .int j => if decide (0 < j) then some (.int (i % j)) else none
  | .Pow, .int i, .int j => if decide (0 ≤ j) && decide (j ≤ 1000) && decide (i.natAbs < 2 ^ 64) then some (.int (i ^ j.toNat)) else none
  | .Add, .str a, .str b => if small (a.length + b.length) then some (.str (a ++ b)) else none
  | .Add, .tup a, .tup b => if small (a.length + b.length) then some (.tup (a ++ b)) else none
  | .Add, .lst a, .lst b => if small (a.length + b.length) then some (.lst (a ++ b)) else none
  | .Mult, .tup a, .int j => if decide (0 < a.length) && decide (a.length ≤ 1000) && (decide (2 ≤ j) && decide (j ≤ 1000)) then some (.tup (List.replicate j.toNat a).flatten) else none
  | .Mult, .str a, .int j => if small (a.length * j.toNat) && (decide (0 < a.length) && (decide (2 ≤ j) && decide (j ≤ 1000))) then some (.str ⟨(List.replicate j.toNat a.cps).foldl (· ++ ·) #[]⟩) else none
  | .Mult, .lst a, .int j => if small (a.length * j.toNat) && (decide (-100000 ≤ j) && decide (j ≤ 100000)) then some (.lst (List.replicate j.toNat a).flatten) else none
  | _, _, _ => none

def D.isDct : D → Bool
  | .dct => true
  | _ => false
def D.isStr : D → Bool
  | .str _ => true
  | _ => false
def inFlat (x : D) (xs : List D) : Bool := xs.any fun y => D.eqv y x

/-- a op b, compared -/
def cmpD (o : CmpOp) (x y : D) : Option Bool :=
  match o with
  | .Eq => match x, y with
    | .int i, .int j => some (decide (i = j))
    | .str a, .str b => some (decide (a = b))
    | _, _ => if x.ok && y.ok then some (D.eqv x y) else none
  | .NotEq => match x, y with
    | .int i, .int j => some (!decide (i = j))
    | .str a, .str b => some (!decide (a = b))
    | _, _ => if x.ok && y.ok then some (!D.eqv x y) else none
  | .Lt => match x, y with | .int i, .int j => some (decide (i < j)) | _, _ => none
  | .LtE => match x, y with | .int i, .int j => some (decide (i ≤ j)) | _, _ => none
  | .Gt => match x, y with | .int i, .int j => some (decide (j < i)) | _, _ => none
  | .GtE => match x, y with | .int i, .int j => some (decide (j ≤ i)) | _, _ => none
  | .In => match y with
    | .lst ys => if x.flat && ys.all D.flat then some (inFlat x ys) else none
    | .tup ys => if x.flat && ys.all D.flat then some (inFlat x ys) else if x.ok && (D.tup ys).ok then some (inFlat x ys) else if x.isDct && ys.all D.isStr then some false else none
    | .str z => match x with | .str c => if c.length == 1 then some (decide (c.cps.getD 0 0 ∈ z.cps.toList)) else none | _ => none
    | _ => none
  | .NotIn => match y with
    | .lst ys => if x.flat && ys.all D.flat then some (!inFlat x ys) else none
    | .tup ys => if x.flat && ys.all D.flat then some (!inFlat x ys) else if x.ok && (D.tup ys).ok then some (!inFlat x ys) else if x.isDct && ys.all D.isStr then some true else none
    | .str z => match x with | .str c => if c.length == 1 then some (!decide (c.cps.getD 0 0 ∈ z.cps.toList)) else none | _ => none
    | _ => none
  | .Is => match x, y with
    | .bl a, .bl b => some (decide (a = b))
    | .non, .non => some true
    | _, .non => some false
    | _, _ => none
  | .IsNot => match x, y with
    | .bl a, .bl b => some (!decide (a = b))
    | .non, .non => some false
    | _, .non => some true
    | _, _ => none

/-- x[i] -/
def ixD (x i : D) : Option D :=
  match x, i with
  | .lst xs, .int k => L2.atI xs k
  | .tup xs, .int k => L2.atI xs k
  | .str z, .int k => if small z.length then (L2.atI z.cps.toList k).map fun c => .str ⟨#[c]⟩ else none
  | _, _ => none

def cutD (xs : List D) (lo hi : Option Int) : List D := (xs.drop (HT.sIx xs.length 0 lo)).take (HT.sIx xs.length xs.length hi - HT.sIx xs.length 0 lo)
def part? : D → Option (Option Int)
  | .non => some none
  | .int i => some (some i)
  | _ => none
/-- xs[::k] -/
def stpD {α : Type} (k : Nat) (xs : List α) : List α := (PySem.sliceRange (PySem.sliceBounds none none (some (k : Int)) xs.length).1 (PySem.sliceBounds none none (some (k : Int)) xs.length).2.1 (PySem.sliceBounds none none (some (k : Int)) xs.length).2.2).filterMap (xs[·]?)
/-- x[lo:hi] -/
def slD (x : D) (lo hi : Option Int) : Option D :=
  match x with
  | .lst xs => some (.lst (cutD xs lo hi))
  | .tup xs => some (.tup (cutD xs lo hi))
  | .str z => if small z.length then some (.str (L2.cutS z lo hi)) else none
  | _ => none

def tyOf : D → Option Ty
  | .bl _ => some .bool
  | .int _ => some .int
  | .str _ => some .str
  | .lst _ => some .list
  | .tup _ => some .tuple
  | .ref _ => some .list
  | .cl _ _ => none
  | .dct => some .dict
  | .non => none
def isTy (d : D) (t : Ty) : Bool := match tyOf d with
  | some u => u == t || (u == .bool && t == .int)
  | none => false

/-- what repr takes -/
def D.shows (d : D) : Bool := d.pure && d.py.showable && d.py.canLay0 && decide (d.py.depth ≤ 60) && decide (d.py.shown.length ≤ 100000)
/-- what sorted takes: data that can be compared, all texts or numbers, or tuples, the first of them empty -/
def allAlike (xs : List D) : Bool := xs.all fun a => xs.all fun b => PySem.W.alike a.py b.py
def D.isTup : D → Bool
  | .tup _ => true
  | _ => false
def D.isAtom : D → Bool
  | .int _ => true
  | .str _ => true
  | _ => false
def headNil : List D → Bool
  | .tup [] :: _ => true
  | _ => false
def D.isTup1 : D → Bool
  | .tup (_ :: _) => true
  | _ => false
def sortOk (xs : List D) : Bool := small xs.length && D.pures xs && allAlike xs && (xs.all fun a => decide (a.py.depth ≤ 100)) && ((headNil xs && xs.all D.isTup) || (xs.all D.isAtom || xs.all D.isTup1))
def sortD (xs : List D) : List D := xs.mergeSort fun a b => !PySem.W.dataLt b.py a.py
/-- those that are new, in the order in which they come -/
def fresh1 (f : List Str) : List Str → List Str
  | [] => f
  | x :: l => if x ∈ f then fresh1 f l else fresh1 (f ++ [x]) l
/-- texts in order -/
def sortS (l : List Str) : List Str := l.mergeSort fun a b => !PySem.W.dataLt (.str b) (.str a)
/-- the builtins -/
def biD (b : BI) (xs : List D) : Option D :=
  match b, xs with
  | .len, [.lst xs] => some (.int xs.length)
  | .len, [.tup xs] => some (.int xs.length)
  | .len, [.str z] => if small z.length then some (.int z.length) else none
  | .int, [.int i] => some (.int i)
  | .int, [.bl b] => some (.int (if b then 1 else 0))
  | .abs, [.int i] => some (.int (if i < 0 then -i else i))
  | .tuple, [.lst xs] => some (.tup xs)
  | .tuple, [.tup xs] => some (.tup xs)
  | .list, [.lst xs] => some (.lst xs)
  | .list, [.tup xs] => some (.lst xs)
  | .list, [.str z] => if small z.length then some (.lst (z.cps.toList.map fun c => .str ⟨#[c]⟩)) else none
  | .all, [.lst xs] => (bls? xs).map fun bs => .bl (bs.all id)
  | .any, [.lst xs] => (bls? xs).map fun bs => .bl (bs.any id)
  | .sum, [.lst xs] => (ints? xs).map fun ns => .int ns.sum
  | .sum, [.tup xs] => (ints? xs).map fun ns => .int ns.sum
  | .max2, [.int i, .int j] => some (.int (if j > i then j else i))
  | .str, [.int i] => if decide (i.natAbs < 2 ^ 1900) then some (.str (toString i)) else none
  | .repr, [.lst xs] => if D.shows (.lst xs) then some (.str ((D.lst xs).py.shown)) else none
  | .repr, [.tup xs] => if D.shows (.tup xs) then some (.str ((D.tup xs).py.shown)) else none
  | .repr, [.int i] => if decide (i.natAbs < 2 ^ 1900) then some (.str ((D.int i).py.shown)) else none
  | .maxl, [.lst xs] => match ints? xs with
    | some (n :: ns) => some (.int (ns.foldl (fun a b => if b > a then b else a) n))
    | _ => none
  | .repr, [.bl b] => some (.str ((D.bl b).py.shown))
  | .repr, [.str z] => if small ((D.str z).py.shown.length) then some (.str ((D.str z).py.shown)) else none
  | .sorted, [.lst xs] => if sortOk xs then some (.lst (sortD xs)) else none
  | .sorted, [.tup xs] => match strs? xs with
    | some ss => if decide (ss.length ≤ 1000) then some (.lst ((sortS ss).map D.str)) else none
    | none => none
  | _, _ => none

def setT : Tg → D → Env → Option Env
  | .n i, d, ρ => some (ρ.set i (some d))
  | .t is, .tup ds, ρ => if ds.length = is.length then some ((is.zip ds).foldl (fun r p => r.set p.1 (some p.2)) ρ) else none
  | .t is, .lst ds, ρ => if ds.length = is.length then some ((is.zip ds).foldl (fun r p => r.set p.1 (some p.2)) ρ) else none
  | _, _, _ => none
def wipeT : Tg → Env → Env
  | .n i, ρ => ρ.set i none
  | .t is, ρ => is.foldr (fun i r => r.set i none) ρ

def isNonE : E → Bool
  | .c .non => true
  | _ => false
def isIntD : D → Bool
  | .int _ => true
  | _ => false
/-- a call of a def, by its number: what it hands back, the store behind it -/
abbrev CF := Nat → List D → Sto → Option (D × Sto)

/-- an object's attributes -/
def putP (f : Str) (d : D) : List (Str × D) → List (Str × D)
  | [] => [(f, d)]
  | (g, x) :: r => if g = f then (g, d) :: r else (g, x) :: putP f d r
def fldD (x f : Str) : List D → Option D
  | .cl y ns :: fs => if y = x then (ns.zip fs).lookup f else none
  | _ => none
def putD (y f : Str) (d : D) : List D → Option (List D)
  | .cl x ns :: fs => if decide (x = y) && decide (ns.length ≤ 100) then some (.cl x ((putP f d (ns.zip fs)).map (·.1)) :: (putP f d (ns.zip fs)).map (·.2)) else none
  | _ => none
/-- arguments in the parameters' order -/
def prm {α : Type} (pm : List Nat) (xs : List α) : List α := pm.filterMap fun i => xs[i]?
/-- how many, where no star stands -/
def plainEs : Es → Option Nat
  | .nil => some 0
  | .cons _ es => (plainEs es).map (· + 1)
  | .star _ _ => none
/-- a comprehension's turns -/
def compRun (f : D → Sto → Option (Option D × Sto)) : List D → List D → Sto → Option (List D × Sto)
  | [], acc, S => some (acc, S)
  | d :: ds, acc, S => match f d S with
    | none => none
    | some (none, S1) => compRun f ds acc S1
    | some (some y, S1) => if small (acc.length + 1) then compRun f ds (acc ++ [y]) S1 else none

/-- two fors -/
def comp2Run (g : D → Sto → Option (List D × (D → Sto → Option (Option D × Sto)) × Sto)) : List D → List D → Sto → Option (List D × Sto)
  | [], acc, S => some (acc, S)
  | d :: ds, acc, S => match g d S with
    | none => none
    | some (ys, f, S1) => match compRun f ys acc S1 with
      | none => none
      | some (acc2, S2) => comp2Run g ds acc2 S2

/-- a new list: a value, or a place of the store -/
def mkList (mt : Bool) (xs : List D) (S : Sto) : Option (D × Sto) :=
  if mt then some (.ref S.length, S ++ [some xs]) else some (.lst xs, S)

/-- methods: the receiver, the arguments, the store -/
def meD (m : ME) (o : D) (xs : List D) (S : Sto) : Option (D × Sto) :=
  match m, o, xs with
  | .append, .ref i, [x] => match S[i]? with
    | some (some ys) => if !isObj ys && small (ys.length + 1) then some (.non, S.set i (some (ys ++ [x]))) else none
    | _ => none
  | .extend, .ref i, [.lst x] => match S[i]? with
    | some (some ys) => if !isObj ys && small (ys.length + x.length) then some (.non, S.set i (some (ys ++ x))) else none
    | _ => none
  | .pop, .ref i, [] => match S[i]? with
    | some (some ys) => if isObj ys then none else (match ys[ys.length - 1]? with
      | some y => some (y, S.set i (some ys.dropLast))
      | none => none)
    | _ => none
  | .popAt, .ref i, [.int k] => match S[i]? with
    | some (some ys) => match L2.ixN ys.length k with
      | some j => if !isObj ys && small ys.length then (match ys[j]? with
        | some y => some (y, S.set i (some (ys.eraseIdx j)))
        | none => none) else none
      | none => none
    | _ => none
  | .index, .lst ys, [x] => if x.flat && ys.all D.flat then (match ys.findIdx? fun y => D.eqv y x with
      | some j => some (.int (j : Nat), S)
      | none => none) else none
  | .join, .str a, [.lst ys] => match strs? ys with
    | some ss => if small ((ss.map (·.length)).sum + ss.length * a.length) then some (.str (Txt.join a ss), S) else none
    | none => none
  | .split, .str a, [.str b] => if small a.length && !(b.length == 0) then some (.lst ((Txt.split a b).map D.str), S) else none
  | .lower, .str a, [] => if small a.length then some (.str (Txt.lower a), S) else none
  | .isalpha, .str a, [] => some (.bl (Txt.isalpha a), S)
  | .isalnum, .str a, [] => some (.bl (Txt.isalnum a), S)
  | _, _, _ => none

def seeAll (S : Sto) : List D → Option (List D)
  | [] => some []
  | x :: xs => match see S x, seeAll S xs with
    | some y, some ys => some (y :: ys)
    | _, _ => none

mutual
def ev (F : CF) : E → Env → Sto → Option (D × Sto)
  | .v i, ρ, S => match ρ[i]? with
    | some (some d) => some (d, S)
    | _ => none
  | .frz i, ρ, S => match ρ[i]? with
    | some (some (.ref j)) => match S[j]? with
      | some (some xs) => if isObj xs then none else some (.lst xs, S.set j none)
      | _ => none
    | _ => none
  | .frzD i, ρ, S => match ρ[i]? with
    | some (some d) => deep 1000 d S
    | _ => none
  | .c d, _, S => some (d, S)
  | .g _ d, _, S => some (d, S)
  | .op o a b, ρ, S => match ev F a ρ S with
    | none => none
    | some (x, S1) => match ev F b ρ S1 with
      | none => none
      | some (y, S2) => match see S2 x, see S2 y with
        | some x', some y' => match opD o x' y' with
          | some z => some (z, S2)
          | none => none
        | _, _ => none
  | .neg a, ρ, S => match ev F a ρ S with
    | some (.int i, S1) => some (.int (-i), S1)
    | _ => none
  | .cmp o a b, ρ, S => match ev F a ρ S with
    | none => none
    | some (x, S1) => match ev F b ρ S1 with
      | none => none
      | some (y, S2) => match see S2 x, see S2 y with
        | some x', some y' => match cmpD o x' y' with
          | some z => some (.bl z, S2)
          | none => none
        | _, _ => none
  | .chain o p a b c, ρ, S => match ev F a ρ S with
    | none => none
    | some (x, S1) => match ev F b ρ S1 with
      | none => none
      | some (y, S2) => match see S2 x, see S2 y with
        | some x', some y' => match cmpD o x' y' with
          | none => none
          | some false => some (.bl false, S2)
          | some true => match ev F c ρ S2 with
            | none => none
            | some (z, S3) => match see S3 y, see S3 z with
              | some y2, some z2 => match cmpD p y2 z2 with
                | some r => some (.bl r, S3)
                | none => none
              | _, _ => none
        | _, _ => none
  | .and a b, ρ, S => match ev F a ρ S with
    | some (.bl true, S1) => ev F b ρ S1
    | some (.bl false, S1) => some (.bl false, S1)
    | _ => none
  | .or a b, ρ, S => match ev F a ρ S with
    | some (.bl true, S1) => some (.bl true, S1)
    | some (.bl false, S1) => ev F b ρ S1
    | _ => none
  | .not a, ρ, S => match ev F a ρ S with
    | some (.bl b, S1) => some (.bl (!b), S1)
    | _ => none
  | .ite c a b, ρ, S => match ev F c ρ S with
    | some (.bl true, S1) => ev F a ρ S1
    | some (.bl false, S1) => ev F b ρ S1
    | _ => none
  | .tup es, ρ, S => match evs F es ρ S with
    | some (xs, S1) => if small xs.length then some (.tup xs, S1) else none
    | none => none
  | .lst es, ρ, S => match evs F es ρ S with
    | some (xs, S1) => if small xs.length then some (.lst xs, S1) else none
    | none => none
  | .new es, ρ, S => match evs F es ρ S with
    | some (xs, S1) => if small xs.length then mkList true xs S1 else none
    | none => none
  | .ix a i, ρ, S => match ev F a ρ S with
    | none => none
    | some (x, S1) => match ev F i ρ S1 with
      | none => none
      | some (y, S2) => match see S2 x with
        | none => none
        | some x' => match ixD x' y with
          | some z => some (z, S2)
          | none => none
  | .sl a lo hi, ρ, S => match ev F a ρ S with
    | none => none
    | some (x, S1) => match ev F lo ρ S1 with
      | none => none
      | some (l, S2) => match ev F hi ρ S2 with
        | none => none
        | some (h, S3) => match see S3 x, part? l, part? h with
          | some x', some l', some h' => if (isNonE lo || isIntD l) && (isNonE hi || isIntD h) then (match slD x' l' h' with
            | some z => some (z, S3)
            | none => none) else none
          | _, _, _ => none
  | .call f es, ρ, S => match evs F es ρ S with
    | some (xs, S1) => F f xs S1
    | none => none
  | .callK f es kes pm, ρ, S => match evs F es ρ S with
    | none => none
    | some (xs, S1) => match evs F kes ρ S1 with
      | none => none
      | some (ys, S2) => F f (prm pm (xs ++ ys)) S2
  | .bi b es, ρ, S => match evs F es ρ S with
    | some (xs, S1) => match seeAll S1 xs with
      | some ys => match biD b ys with
        | some z => some (z, S1)
        | none => none
      | none => none
    | none => none
  | .fmt a, ρ, S => match ev F a ρ S with
    | some (.str y, S1) => if small y.length then some (.str y, S1) else none
    | some (.int i, S1) => if decide (i.natAbs < 2 ^ 1900) then some (.str (toString i), S1) else none
    | _ => none
  | .js es, ρ, S => match evs F es ρ S with
    | some (xs, S1) => match strs? xs with
      | some ss => if small ((ss.map (·.length)).sum) then some (.str (catS Str.empty ss), S1) else none
      | none => none
    | none => none
  | .sset a, ρ, S => match ev F a ρ S with
    | none => none
    | some (x, S1) => match see S1 x with
      | some (.lst xs) => (match strs? xs with
        | some ss => if decide (ss.length ≤ 1000) then some (.lst ((sortS (fresh1 [] ss)).map D.str), S1) else none
        | none => none)
      | _ => none
  | .mk es, ρ, S => match evs F es ρ S with
    | some (xs, S1) => match seeAll S1 xs with
      | some ys => match biD .list ys with
        | some (.lst zs) => mkList true zs S1
        | _ => none
      | none => none
    | none => none
  | .comp mt t it elt, ρ, S => match ev F it ρ S with
    | none => none
    | some (x, S1) => match items x with
      | none => none
      | some xs => match compRun (fun d S => match setT t d (wipeT t ρ) with
          | none => none
          | some ρ' => match ev F elt ρ' S with
            | none => none
            | some (y, S') => some (some y, S')) xs [] S1 with
        | none => none
        | some (ys, S2) => mkList mt ys S2
  | .compI mt t it cond elt, ρ, S => match ev F it ρ S with
    | none => none
    | some (x, S1) => match items x with
      | none => none
      | some xs => match compRun (fun d S => match setT t d (wipeT t ρ) with
          | none => none
          | some ρ' => match ev F cond ρ' S with
            | some (.bl true, S1) => (match ev F elt ρ' S1 with
              | none => none
              | some (y, S') => some (some y, S'))
            | some (.bl false, S1) => some (none, S1)
            | _ => none) xs [] S1 with
        | none => none
        | some (ys, S2) => mkList mt ys S2
  | .comp2 mt t it t2 it2 elt, ρ, S => match ev F it ρ S with
    | none => none
    | some (x, S1) => match items x with
      | none => none
      | some xs => match comp2Run (fun d S => match setT t d (wipeT t (wipeT t2 ρ)) with
          | none => none
          | some ρ' => match ev F it2 ρ' S with
            | none => none
            | some (y, S') => match items y with
              | none => none
              | some ys => some (ys, (fun e S => match setT t2 e (wipeT t2 ρ') with
                | none => none
                | some ρ2 => match ev F elt ρ2 S with
                  | none => none
                  | some (z, S') => some (some z, S')), S')) xs [] S1 with
        | none => none
        | some (ys, S2) => mkList mt ys S2
  | .fld x o f, ρ, S => match ev F o ρ S with
    | some (.ref i, S1) => match S1[i]? with
      | some (some xs) => match fldD x f xs with
        | some d => some (d, S1)
        | none => none
      | _ => none
    | _ => none
  | .mko x f es, ρ, S => match evs F es ρ S with
    | none => none
    | some (xs, S1) => match F f (.ref S1.length :: xs) (S1 ++ [some [.cl x []]]) with
      | some (.non, S2) => some (.ref S1.length, S2)
      | _ => none
  | .mcall x m f o es, ρ, S => match ev F o ρ S with
    | some (.ref i, S1) => match S1[i]? with
      | some (some (.cl y ns :: _)) => if decide (y = x) && !ns.contains m then (match evs F es ρ S1 with
        | none => none
        | some (xs, S2) => F f (.ref i :: xs) S2) else none
      | _ => none
    | _ => none
  | .dct _, _, S => some (.dct, S)
  | .stp a k, ρ, S => match ev F a ρ S with
    | none => none
    | some (x, S1) => match see S1 x with
      | some (.lst xs) => if decide (0 < k) && small xs.length then some (.lst (stpD k xs), S1) else none
      | _ => none
  | .bits a, ρ, S => match ev F a ρ S with
    | some (.int i, S1) => some (.int (Builtin.Int.intBits i : Nat), S1)
    | _ => none
  | .meth m o es, ρ, S => match ev F o ρ S with
    | none => none
    | some (x, S1) => if (see S1 x).isSome then (match evs F es ρ S1 with
      | none => none
      | some (xs, S2) => meD m x xs S2) else none
  | .isi e tys, ρ, S => match ev F e ρ S with
    | some (x, S1) => match see S1 x with
      | some x' => some (.bl (tys.any (isTy x')), S1)
      | none => none
    | none => none
  | .rng a b, ρ, S => match ev F a ρ S with
    | some (.int i, S1) => match ev F b ρ S1 with
      | some (.int j, S2) => if decide (-(2 ^ 62) ≤ i) && decide (i < 2 ^ 62) && decide (-(2 ^ 62) ≤ j) && decide (j < 2 ^ 62) then
          some (.lst ((List.range (j - i).toNat).map fun (k : Nat) => .int (i + k)), S2) else none
      | _ => none
    | _ => none
  | .zip a b, ρ, S => match ev F a ρ S with
    | some (.lst xs, S1) => match ev F b ρ S1 with
      | some (.lst ys, S2) => if xs.length = ys.length then some (.lst ((xs.zip ys).map fun p => .tup [p.1, p.2]), S2) else none
      | _ => none
    | _ => none
  | .zipT a b, ρ, S => match ev F a ρ S with
    | some (.tup xs, S1) => match ev F b ρ S1 with
      | some (.lst ys, S2) => if xs.length = ys.length then some (.lst ((xs.zip ys).map fun p => .tup [p.1, p.2]), S2) else none
      | _ => none
    | _ => none
  | .enum a, ρ, S => match ev F a ρ S with
    | some (.lst xs, S1) => some (.lst (((List.range xs.length).zip xs).map fun p => .tup [.int (p.1 : Nat), p.2]), S1)
    | _ => none
def evs (F : CF) : Es → Env → Sto → Option (List D × Sto)
  | .nil, _, S => some ([], S)
  | .cons e es, ρ, S => match ev F e ρ S with
    | none => none
    | some (x, S1) => match evs F es ρ S1 with
      | none => none
      | some (xs, S2) => some (x :: xs, S2)
  | .star e es, ρ, S => match ev F e ρ S with
    | none => none
    | some (x, S1) => match see S1 x with
      | some (.lst ys) => (match evs F es ρ S1 with
        | none => none
        | some (xs, S2) => some (ys ++ xs, S2))
      | some (.tup ys) => (match evs F es ρ S1 with
        | none => none
        | some (xs, S2) => some (ys ++ xs, S2))
      | _ => none
end

inductive Out where
  | nx (ρ : Env) | rt (d : D) | bk (ρ : Env) | ct (ρ : Env)

def forRun (t : Tg) (body : Env → Sto → Option (Out × Sto)) : List D → Env → Sto → Option (Out × Sto)
  | [], ρ, S => some (.nx ρ, S)
  | d :: ds, ρ, S => match setT t d ρ with
    | none => none
    | some ρ1 => match body ρ1 S with
      | none => none
      | some (.nx ρ2, S1) => forRun t body ds ρ2 S1
      | some (.ct ρ2, S1) => forRun t body ds ρ2 S1
      | some (.bk ρ2, S1) => some (.nx ρ2, S1)
      | some (.rt d, S1) => some (.rt d, S1)
def whRun (test : Env → Sto → Option (D × Sto)) (body : Env → Sto → Option (Out × Sto)) : Nat → Env → Sto → Option (Out × Sto)
  | 0, _, _ => none
  | n + 1, ρ, S => match test ρ S with
    | some (.bl false, S1) => some (.nx ρ, S1)
    | some (.bl true, S1) => (match body ρ S1 with
      | none => none
      | some (.nx ρ2, S2) => whRun test body n ρ2 S2
      | some (.ct ρ2, S2) => whRun test body n ρ2 S2
      | some (.bk ρ2, S2) => some (.nx ρ2, S2)
      | some (.rt d, S2) => some (.rt d, S2))
    | _ => none

mutual
def ex (F : CF) (w : Nat) : St → Env → Sto → Option (Out × Sto)
  | .asg t e, ρ, S => match ev F e ρ S with
    | none => none
    | some (x, S1) => match setT t x ρ with
      | none => none
      | some ρ' => some (.nx ρ', S1)
  | .par is es, ρ, S => match evs F es ρ S with
    | none => none
    | some (xs, S1) => if xs.length = is.length then some (.nx ((is.zip xs).foldl (fun r p => r.set p.1 (some p.2)) ρ), S1) else none
  | .put o i e, ρ, S => match ev F e ρ S with
    | none => none
    | some (x, S1) => match ev F o ρ S1 with
      | some (.ref l, S2) => (match ev F i ρ S2 with
        | some (.int k, S3) => (match S3[l]? with
          | some (some xs) => (match L2.ixN xs.length k with
            | some j => if isObj xs then none else some (.nx ρ, S3.set l (some (xs.set j x)))
            | none => none)
          | _ => none)
        | _ => none)
      | _ => none
  | .setf z o f e, ρ, S => match ev F e ρ S with
    | none => none
    | some (x, S1) => match ev F o ρ S1 with
      | some (.ref i, S2) => (match S2[i]? with
        | some (some xs) => (match putD z f x xs with
          | some ys => some (.nx ρ, S2.set i (some ys))
          | none => none)
        | _ => none)
      | _ => none
  | .ex e, ρ, S => match ev F e ρ S with
    | none => none
    | some (_, S1) => some (.nx ρ, S1)
  | .ret e, ρ, S => match ev F e ρ S with
    | none => none
    | some (x, S1) => some (.rt x, S1)
  | .ifs c a b, ρ, S => match ev F c ρ S with
    | some (.bl true, S1) => exs F w a ρ S1
    | some (.bl false, S1) => exs F w b ρ S1
    | _ => none
  | .for t it b, ρ, S => match ev F it ρ S with
    | none => none
    | some (x, S1) => match items x with
      | none => none
      | some xs => forRun t (fun ρ S => exs F w b ρ S) xs ρ S1
  | .wh c b, ρ, S => whRun (fun ρ S => ev F c ρ S) (fun ρ S => exs F w b ρ S) w ρ S
  | .never, _, _ => none
  | .frz i, ρ, S => match ρ[i]? with
    | some (some (.ref j)) => match S[j]? with
      | some (some xs) => if isObj xs then none else some (.nx (ρ.set i (some (.lst xs))), S.set j none)
      | _ => none
    | _ => none
  | .frzD i, ρ, S => match ρ[i]? with
    | some (some d) => (match deep 1000 d S with
      | some (d', S1) => some (.nx (ρ.set i (some d')), S1)
      | none => none)
    | _ => none
  | .pass, ρ, S => some (.nx ρ, S)
  | .brk, ρ, S => some (.bk ρ, S)
  | .cnt, ρ, S => some (.ct ρ, S)
def exs (F : CF) (w : Nat) : Ss → Env → Sto → Option (Out × Sto)
  | .nil, ρ, S => some (.nx ρ, S)
  | .cons s ss, ρ, S => match ex F w s ρ S with
    | none => none
    | some (.nx ρ', S1) => exs F w ss ρ' S1
    | some o => some o
end

/-- a def: how many parameters, how many slots, its body -/
structure Fn where
  ar : Nat
  sl : Nat
  body : Ss
/-- behind a def: places that it made are forgotten, if nothing that goes on speaks of them -/
def closedS (n : Nat) (S : Sto) : Bool := S.all fun o => match o with
  | some xs => D.unders n xs
  | none => true
def leave (n : Nat) (d : D) (S : Sto) : Sto :=
  if (D.pure d || D.under 0 d) && closedS n (S.take n) then S.take n else S
/-- a number beyond the defs' calls the def as many numbers below it, one level deeper: what makes an object does so with its __init__ -/
def run (T : List Fn) (w : Nat) : Nat → CF
  | 0 => fun _ _ _ => none
  | n + 1 => fun f ds S => match T[f]? with
    | none => run T w n (f - T.length) ds S
    | some fn => if ds.length = fn.ar then (match exs (run T w n) w fn.body (ds.map some ++ List.replicate (fn.sl - fn.ar) none) S with
        | some (.rt d, S1) => some (d, leave S.length d S1)
        | some (.nx _, S1) => some (.non, leave S.length .non S1)
        | _ => none) else none
end Iv

set_option Elab.async false
set_option linter.all false
set_option maxRecDepth 100000
set_option maxHeartbeats 4000000
namespace Iv
open PySem PySem.W PySem.Calls PyProof.Rows PySem.SeqAt
variable {prog : Program} {w : World} {A : Around} {E : Value → Shared → Prop} {s : Shared}
theorem tup_lt_call {Q : Value → Shared → Prop} {l b : Addr} {vs ws : Array Value} {e r : Nat → Bool} (hl : s.heap.IsTuple l vs) (hb : s.heap.IsTuple b ws)
    (he : ∀ j (h1 : j < vs.size) (h2 : j < ws.size), EqAt A.in1 s vs[j] ws[j] (e j)) (hr : ∀ j (h1 : j < vs.size) (h2 : j < ws.size), e j = false → RcLt A.in1 s vs[j] ws[j] (r j))
    (h : Q (.bool (firstLt e r (decide (vs.size < ws.size)) (List.range (min vs.size ws.size)))) s) : wpAny (model prog w) A (call (.builtin "tuple.__lt__") [.ref l, .ref b]) Q E s := by
  obtain ⟨⟨c1, d1, da1, s1⟩, o1, k1, m1, e1⟩ := id hl
  obtain ⟨⟨c2, d2, da2, s2⟩, o2, k2, m2, e2⟩ := id hb
  simp only at k1 e1 k2 e2
  subst k1 e1 k2 e2
  exact call_meets F.slot_tuple_lt ⟨_, o1, rfl⟩ F.entry_tuple_lt (F.args_tuple_lt_2 _ _) (tuple_ltAt l b vs ws m1 m2 d1 d2 s1 s2 e r)
    ⟨o1, o2, he, hr, h⟩
theorem oneLt_tup {xs ys : List PyData} {a b : Value} {as bs : List Addr} {Q : Bool → Shared → Prop} (ra : Reads s.heap a (.tuple xs) as) (rb : Reads s.heap b (.tuple ys) bs) (h : alike (.tuple xs) (.tuple ys) = true)
    (hu : A.units + min (PyData.tuple xs).depth (PyData.tuple ys).depth < cLine) (hq : Q (dataLt (.tuple xs) (.tuple ys)) s) : wpAny (model prog w) A (oneLt' true a b) Q E s := by
  have hal : alikeAll xs ys = true := by simpa [alike] using h
  cases ra with
  | @tuple l o vs n _ as₁ h1 h2 h3 h4 =>
    cases rb with
    | @tuple l' o' vs' n' _ bs₁ k1 k2 k3 k4 =>
      have n1 : vs.size = xs.length := by simpa using SeqAt.ReadsAll.length _ _ _ h4
      have n2 : vs'.size = ys.length := by simpa using SeqAt.ReadsAll.length _ _ _ k4
      rw [oneLt'_eq]
      simp only [if_true]
      rw [dataLt_tuple, ← firstLt_toks xs ys hal, ← n1, ← n2] at hq
      refine wpAny_bind (wpAny_cRoomFor (SeqAt.room_here hu) ?_)
      refine wpAny_bind (wpAny_callSpecialIfBound?_slot (T := "tuple") ⟨_, h1, h2⟩ F.slot_tuple_lt (tup_lt_call (e := SeqAt.pairEq xs ys) (r := fun j => dataLt (xs.getD j .none) (ys.getD j .none)) ⟨_, h1, h2, _, h3⟩ ⟨_, k1, k2, _, k3⟩ (fun j j1 j2 => ?_) (fun j j1 j2 hj => ?_) ?_))
      · have := eqAt_alikeAll xs ys A.in1 s vs.toList vs'.toList _ _ h4 k4 hal (SeqAt.room_in hu) j (by simpa using j1) (by simpa using j2)
        simpa using this
      · have := rcLt_alikeAll xs ys A.in1 s vs.toList vs'.toList _ _ h4 k4 hal (SeqAt.room_in hu) j (by simpa using j1) (by simpa using j2) hj
        simpa using this
      · exact wpAny_truthy_bool hq
theorem mapM_res {α β : Type} {M : Model} {f : α → Sem β} : ∀ (l : List α) (ms : List β) {Q : List β → Shared → Prop}, l.length = ms.length → (∀ (i : Nat) (v : α) (m : β), l[i]? = some v → ms[i]? = some m → ∀ (Q' : β → Shared → Prop), Q' m s → wpAny M A (f v) Q' E s) → Q ms s → wpAny M A (l.mapM f) Q E s
  | [], [], _, _, _, h => by rw [List.mapM_nil]; exact wpAny_pure h
  | [], _ :: _, _, hl, _, _ => by cases hl
  | _ :: _, [], _, hl, _, _ => by cases hl
  | x :: l, m :: ms, Q, hl, hf, h => by
    rw [List.mapM_cons]
    exact wpAny_bind (hf 0 x m rfl rfl _ (wpAny_bind (mapM_res l ms (Q := fun bs s' => wpAny M A (pure (m :: bs)) Q E s') (by simpa using hl) (fun i v m h1 h2 => hf (i + 1) v m (by simpa using h1) (by simpa using h2)) (wpAny_pure h))))

theorem first_reads {M : Model} {v : Value} {xs : List PyData} {as : List Addr} (r : Reads s.heap v (.tuple xs) as) : ∃ m : Option Value, (xs = [] → m = none) ∧ ∀ (E' : Value → Shared → Prop) (Q' : Option Value → Shared → Prop), Q' m s → wpAny M A (firstOfTuple' v) Q' E' s := by
  cases r with
  | @tuple l o vs n _ as₁ h1 h2 h3 h4 =>
    refine ⟨vs[0]?, fun e => ?_, fun E' Q' hq => ?_⟩
    · subst e
      have n1 : vs.size = ([] : List PyData).length := by simpa using SeqAt.ReadsAll.length _ _ _ h4
      simpa using n1
    · rw [kas_first_eq]
      refine wpAny_bind (Looks.here (show Looks M s.heap (typeOf (.ref l)) o.cls from (Looks.ld h1).andThen .now) ?_)
      rw [h2, if_neg (by first | decide | simp)]
      exact wpAny_bind (listItems_at h1 h3 (wpAny_pure hq))
theorem firsts_reads {M : Model} : ∀ {vs : List Value} {ds : List PyData}, EachIs (fun v d => ∃ as, Reads s.heap v d as) vs ds → (∀ d, d ∈ ds → ∃ xs, d = .tuple xs) →
    ∃ ms : List (Option Value), vs.length = ms.length ∧ (∀ r, ds = .tuple [] :: r → ∃ m, ms = none :: m) ∧ ∀ (i : Nat) (v : Value) (m : Option Value), vs[i]? = some v → ms[i]? = some m → ∀ (E' : Value → Shared → Prop) (Q' : Option Value → Shared → Prop), Q' m s → wpAny M A (firstOfTuple' v) Q' E' s
  | _, _, .nil, _ => ⟨[], rfl, fun _ e => (nomatch e), fun i v m h _ => by simp at h⟩
  | _, _, .cons (b := d) ⟨as, r⟩ t, ht => by
    obtain ⟨ms, h1, _, h3⟩ := firsts_reads (M := M) t fun d hd => ht d (List.mem_cons_of_mem _ hd)
    obtain ⟨xs, rfl⟩ := ht d (List.mem_cons_self ..)
    obtain ⟨m, k1, k2⟩ := first_reads (M := M) (A := A) r
    refine ⟨m :: ms, by rw [List.length_cons, List.length_cons, h1], fun r e => ?_, fun i v m' hv hm E' Q' hq => ?_⟩
    · injection e with e1 e2
      injection e1 with e1
      exact ⟨ms, by rw [k1 e1]⟩
    · cases i with
      | zero => simp at hv hm; subst hv hm; exact k2 E' Q' hq
      | succ i => exact h3 i v m' (by simpa using hv) (by simpa using hm) E' Q' hq
theorem kind_tups0 {vs : List Value} {ds : List PyData} {M : Model} (e : EachIs (fun v d => ∃ as, Reads s.heap v d as) vs ds) (ht : ∀ d, d ∈ ds → ∃ xs, d = .tuple xs) (h0 : ∃ r, ds = .tuple [] :: r) {Q : SortKind → Shared → Prop} (h : Q oneType' s) :
    wpAny M A (keyKind' vs.toArray) Q E s := by
  obtain ⟨ms, h1, h2, h3⟩ := firsts_reads (M := M) (A := A) e ht
  obtain ⟨r, h0⟩ := h0
  obtain ⟨m, rfl⟩ := h2 r h0
  have hT : ∀ v ∈ vs, Looks M s.heap (typeOf v) (Value.type "tuple") := fun v hv => by
    obtain ⟨d, hd, as, r⟩ := e.left v hv
    obtain ⟨xs, rfl⟩ := ht d hd
    exact looks_reads r
  rw [keyKind'_eq, List.mapM_toArray, map_eq_pure_bind]
  refine wpAny_bind (wpAny_bind (mapM_res vs (none :: m) h1 (fun i v m' k1 k2 Q' hq => h3 i v m' k1 k2 _ Q' hq) (wpAny_pure ?_)))
  rw [if_neg (by simp), if_neg (by simp)]
  rw [oneTypeOnly'_eq, List.mapM_toArray, map_eq_pure_bind]
  refine wpAny_bind (wpAny_bind (wpAny_bind (kas_mapM (r := Value.type "tuple") _ (fun v hv Q' hq => (hT v hv).here hq) (wpAny_pure ?_))))
  have hall : ((List.map (fun _ => Value.type "tuple") vs).toArray.all fun x => x == Value.type "tuple") = true := by
    simp only [List.all_toArray, List.all_map, List.all_eq_true]
    intro _ _
    rfl
  obtain ⟨v, vs', rfl⟩ : ∃ v vs', vs = v :: vs' := by
    cases vs with
    | nil => cases h1
    | cons v vs' => exact ⟨v, vs', rfl⟩
  have h0 : (List.map (fun _ => Value.type "tuple") (v :: vs')).toArray[0]? = some (Value.type "tuple") := by simp
  rw [h0]
  simp only [hall, if_true]
  exact wpAny_pure (wpAny_pure h)
/-- tuples, the first of them empty, can be sorted -/
theorem sorts_tups0 {vs : List Value} {ds : List PyData} (e : EachIs (fun v d => ∃ as, Reads s.heap v d as) vs ds) (hal : AllAlike ds) (ht : ∀ d, d ∈ ds → ∃ xs, d = .tuple xs) (h0 : ∃ r, ds = .tuple [] :: r) (hu : ∀ d, d ∈ ds → A.units + d.depth < cLine) : SortsAt prog w A s (dataKind s.heap ds) vs := by
  have room : ∀ {d d' : PyData}, d ∈ ds → A.units + min d.depth d'.depth < cLine := fun {d d'} hd => Nat.lt_of_le_of_lt (Nat.add_le_add_left (Nat.min_le_left _ _) _) (hu d hd)
  refine ⟨fun v hv => ?_, oneType', ?_, fun h2 E Q hq => kind_tups0 e ht h0 hq⟩
  · obtain ⟨d, hd, as, r⟩ := e.left v hv
    exact ⟨_, dataKind_some hal hd r⟩
  · intro E x y a b Q ha hb hq
    obtain ⟨d, as, hd, ra, rfl⟩ := dataKind_inv ha
    obtain ⟨d', as', hd', rb, rfl⟩ := dataKind_inv hb
    obtain ⟨xs, rfl⟩ := ht d hd
    obtain ⟨ys, rfl⟩ := ht d' hd'
    rw [keyLt'_oneType]
    exact oneLt_tup ra rb (hal _ hd _ hd') (room hd) hq
theorem lt_str_total {a b : Str} (h1 : PySem.W.dataLt (.str a) (.str b) = false) (h2 : PySem.W.dataLt (.str b) (.str a) = false) : a = b := by
  have q := (PyProof.Rows.listOrd PyProof.Rows.itemOrd).total (PySem.W.keyToks (.str a)) (PySem.W.keyToks (.str b)) h1 h2
  simp only [PySem.W.keyToks] at q
  injection q with q _
  injection q with q
  exact PySem.W.str_of_cps q
theorem sortS_asc (l : List Str) : (sortS l).Pairwise fun a b => (!PySem.W.dataLt (.str b) (.str a)) = true := by
  have T := PySem.W.sortLe_total (PyProof.Rows.listOrd PyProof.Rows.itemOrd) false fun b : Str => PySem.W.keyToks (.str b)
  exact List.pairwise_mergeSort (le := fun a b : Str => !PySem.W.dataLt (.str b) (.str a)) (fun a b c h1 h2 => T.trans a b c h1 h2) (fun a b => (Bool.or_eq_true _ _).mpr (T.total a b)) _
theorem sortS_perm {l m : List Str} (h : l.Perm m) : sortS l = sortS m := by
  refine List.Perm.eq_of_pairwise (le := fun a b => (!PySem.W.dataLt (.str b) (.str a)) = true) (fun a b _ _ h1 h2 => ?_) (sortS_asc l) (sortS_asc m) ?_
  · rw [Bool.not_eq_true'] at h1 h2
    exact lt_str_total h2 h1
  · exact (List.mergeSort_perm _ _).trans (h.trans (List.mergeSort_perm _ _).symm)
theorem sortS_is (l : List Str) : (sortS l).Perm l := List.mergeSort_perm _ _
section
variable {P : Program}
theorem each_strs {h : Heap} : ∀ {vs : List Value} {ys : List Str}, StrsAre vs ys → PySem.W.EachIs (fun v d => ∃ as, PySem.Reads h v (PyData.str d) as) vs ys
  | _, _, .nil => .nil
  | _, _, .cons n t r => .cons ⟨_, .str _ _⟩ (each_strs r)
theorem each_strR : ∀ {vs : List Value} {ys : List Str}, StrsAre vs ys → PySem.W.EachIs (fun v d => ∃ t, v = Value.str d t) vs ys
  | _, _, .nil => .nil
  | _, _, .cons n t r => .cons ⟨_, rfl⟩ (each_strR r)
theorem strs_each : ∀ {vs : List Value} {ys : List Str}, PySem.W.EachIs (fun v d => ∃ t, v = Value.str d t) vs ys → StrsAre vs ys
  | _, _, .nil => .nil
  | _, _, .cons (b := n) ⟨t, e⟩ r => by subst e; exact .cons n t (strs_each r)
theorem strs_alike (ys : List Str) : PySem.W.AllAlike (ys.map PyData.str) := PySem.W.AllAlike.of (enc := PyData.str) fun _ _ => by simp [PySem.W.alike]
theorem strs_sortable (ys : List Str) : PySem.W.Sortable (ys.map PyData.str) := PySem.W.Sortable.others (enc := PyData.str) fun _ => ⟨by simp, fun xs => by simp⟩
theorem sorts_strs {vs : List Value} {ys : List Str} (hv : StrsAre vs ys) (hu : A.units < cLine) : PySem.W.SortsAt P w A s (PySem.W.dataKind s.heap (ys.map PyData.str)) vs :=
  PySem.W.SortsAt.data (PySem.W.each_map (R := fun v d => ∃ as, PySem.Reads s.heap v d as) PyData.str (each_strs hv)) (strs_alike ys) (strs_sortable ys) fun d hd => by
    obtain ⟨y, _, rfl⟩ := List.mem_map.mp hd
    simp only [PyData.depth]
    omega
theorem sorted_out {h' : Heap} {vs : List Value} {ys : List Str} (hv : StrsAre vs ys) : StrsAre (PySem.W.sortVals (PySem.W.dataKind h' (ys.map PyData.str)) false vs vs) (sortS ys) := by
  have q := PySem.W.sortVals_data (h' := h') (R := fun v d => ∃ t, v = Value.str d t) (enc := PyData.str) false (each_strR hv) (each_strs hv) (strs_alike ys)
  rw [PySem.W.dataLe_eq] at q
  exact strs_each q
/-- the items of a tuple, gathered -/
theorem collect_tup {l : Addr} {vs : List Value} {Q : List Value → Shared → Prop} (hl : s.heap.IsTuple l vs.toArray)
    (h : Q vs { s with heap := (s.heap.push (seqObj "list" #[] 0)).update s.heap.objs.size (Obj.mapSeq (· ++ vs.toArray)) }) (hsz : vs.length ≤ sizeLine) :
    wpAny (model P w) A (collect (.ref l)) Q E s := by
  obtain ⟨o, ho, hc, n, hd⟩ := id hl
  unfold collect
  refine wpAny_bind (wpAny_runValue (codeAny_builtin entry_proto_collect' ?_))
  show wpAny _ _ (do again (.builtin "list.__iadd__" ⟨[← newList [], .ref l], []⟩)) _ _ s
  refine wpAny_bind (wpAny_newList (wpAny_pure ⟨Code.quiet_builtin _ (by decide +kernel), codeAny_builtin entry_list_iadd' ?_⟩))
  show wpAny _ _ (Builtin.List.listExtendWith (.ref s.heap.objs.size) (.ref l) (.ref s.heap.objs.size)) _ _ { s with heap := s.heap.push (seqObj "list" #[] 0) }
  unfold Builtin.List.listExtendWith
  have ho' : (s.heap.push (seqObj "list" #[] 0)).get? l = some o := Heap.get?_push_of_some _ ho
  refine wpAny_bind (wpAny_typeOf (T := "tuple") ⟨o, ho', hc⟩ ?_)
  have ht : (Value.type "tuple" == Value.type "tuple") = true := by rfl
  rw [if_pos (by rw [ht]; simp)]
  refine wpAny_bind (listItems_at ho' hd ?_)
  refine wpAny_bind (listItems_at (xs := #[]) (n := 0) (Heap.get?_push_size _ rfl) rfl ?_)
  rw [if_neg (by simp)]
  refine wpAny_bind (listUpdate_at (xs := #[]) (n := 0) (Heap.get?_push_size _ rfl) rfl ?_ (Nat.zero_le _) (by show (#[] ++ vs.toArray).size ≤ sizeLine + 1; simp only [Array.size_append, List.size_toArray, List.length_nil]; omega))
  refine wpAny_pure ?_
  show wpAny (model P w) A (do
      let o ← load s.heap.objs.size
      match o.data with
      | .seq xs _ => pure xs.toList
      | _ => unsupported "internal:collect") Q E { s with heap := (s.heap.push (seqObj "list" #[] 0)).update s.heap.objs.size (Obj.mapSeq (· ++ vs.toArray)) }
  refine wpAny_bind (wpAny_load (get?_update_seq (Heap.get?_push_size _ rfl) _) ?_)
  show wpAny _ _ (pure ((#[] : Array Value) ++ vs.toArray).toList) Q E _
  rw [show ((#[] : Array Value) ++ vs.toArray).toList = vs by simp]
  exact wpAny_pure h
theorem sorted_tup {l : Addr} {vs : List Value} {ys : List Str} {Q : Value → Shared → Prop} (hl : s.heap.IsTuple l vs.toArray) (hv : StrsAre vs ys) (hL : ys.length ≤ 1000) (hu : A.units + 3 < cLine)
    (h : ∀ out : List Value, StrsAre out (sortS ys) → Q (.ref (s.heap.objs.size + 1)) { s with heap := sortedAll s.heap vs out.toArray }) : wpAny (model P w) A (call (.builtin "sorted") [.ref l]) Q E s := by
  have hvl := hv.length
  have hz : vs.length ≤ sizeLine := by rw [sizeLine_eq]; omega
  refine Calls.call_function_entry kind_sorted plain_sorted entry_sorted (args_sorted1 _) ?_
  unfold Builtin.«sorted»
  refine wpAny_bind (m := checkCount "sorted" 1 1 _) (wpAny_pure ?_)
  refine wpAny_bind (collect_tup hl ?_ hz)
  refine wpAny_bind (wpAny_newList ?_ hz)
  have hsz : ((s.heap.push (seqObj "list" #[] 0)).update s.heap.objs.size (Obj.mapSeq (· ++ vs.toArray))).objs.size = s.heap.objs.size + 1 := by
    rw [Heap.size_update, size_push']
  show wpAny _ _ _ _ _ { s with heap := PySem.W.copyHeap s.heap vs }
  rw [hsz]
  refine wpAny_bind (wpAny_holding (wpAny_call_entry slot_list_sort ⟨_, PySem.W.copyHeap_at s.heap vs, rfl⟩ entry_list_sort (PySem.W.list_sort_vals (s := { s with heap := PySem.W.copyHeap s.heap vs }) (PySem.W.copyHeap_at s.heap vs)
    (sorts_strs (s := { s with heap := PySem.W.sortingHeap (PySem.W.copyHeap s.heap vs) (s.heap.objs.size + 1) vs }) hv (by show A.units + 1 + 1 < cLine; omega)) hz ⟨_, rfl, ?_⟩) (args_list_sort _)))
  exact wpAny_pure ⟨_, rfl, h _ (sorted_out hv)⟩
end
end Iv

set_option Elab.async false
set_option linter.all false
set_option maxRecDepth 100000
namespace Iv
open PySem PySem.Spec PyProof.Rows L2

/-- where the places lie; lists that are being made -/
structure Mu where
  ps : List Addr
  z : List Addr
def Live0 (S : Sto) (μ : Mu) (a : Addr) : Prop := ∃ (i : Nat) (xs : List D), S[i]? = some (some xs) ∧ μ.ps[i]? = some a
def Live (S : Sto) (μ : Mu) (a : Addr) : Prop := Live0 S μ a ∨ a ∈ μ.z
/-- a list of the written part -/
def KL (K : PySem.W.Frag) (a : Addr) (xs : List V) : Prop :=
  ∃ (its : List Value) (n : Nat), K.lookup a = some { cls := .type "list", data := .seq its.toArray n } ∧ its.length ≤ sizeLine ∧ Vals xs its
/-- a list to be read, of the plain make -/
def SqP (K : PySem.W.Frag) (H : Hp) (a : Addr) (xs : List V) : Prop := Rd H a (.lst xs) ∨ KL K a xs
theorem SqP.l {K : PySem.W.Frag} {H : Hp} {a : Addr} {xs : List V} (h : SqP K H a xs) : SqL K H a xs := by
  rcases h with h | ⟨its, n, hk, hz, r⟩
  · exact .inl h
  · exact .inr ⟨_, its.toArray, n, hk, rfl, rfl, rfl, by simpa using hz, by simpa using r⟩
theorem SqP.of {K : PySem.W.Frag} {H : Hp} {a : Addr} {xs : List V} (h : H a = some (.lst xs)) : SqP K H a xs := .inl (.inl h)
theorem SqP.plain {X : Cx} {pins : List (Addr × Obj)} {σ : L2.St} {H : Hp} {s : Shared} {a : Addr} {xs : List V} (I : Inv X pins σ H s) (h : SqP X.K H a xs) :
    xs.length ≤ sizeLine ∧ ∃ (its : List Value) (n : Nat), Vals xs its ∧ xs.length = its.length ∧ s.heap.get? a = some { cls := .type "list", data := .seq its.toArray n } := by
  rcases h with h | ⟨its, n, hk, hz, r⟩
  · obtain ⟨z, its, n, r, e⟩ := h.ok I.hok
    exact ⟨z, its, n, r, r.length, e⟩
  · exact ⟨by rw [r.length]; exact hz, its, n, r, r.length, I.kIn a _ hk⟩

mutual
def Rep (K : PySem.W.Frag) (S : Sto) (μ : Mu) (H : Hp) : D → V → Prop
  | .non, v => v = .non
  | .bl b, v => v = .bl b
  | .int i, v => v = .int i
  | .str x, v => v = .str x
  | .tup ds, v => ∃ (a : Addr) (vs : List V), v = .ref a ∧ SqT K H a vs ∧ Reps K S μ H ds vs
  | .lst ds, v => ∃ (a : Addr) (vs : List V), v = .ref a ∧ ((Rd H a (.lst vs) ∧ ¬ Live S μ a) ∨ KL K a vs) ∧ Reps K S μ H ds vs
  | .ref i, v => ∃ a, v = .ref a ∧ μ.ps[i]? = some a
  | .cl _ _, _ => False
  | .dct, v => ∃ (a : Addr) (kvs : List (Key × V)), v = .ref a ∧ H a = some (.dK kvs)
def Reps (K : PySem.W.Frag) (S : Sto) (μ : Mu) (H : Hp) : List D → List V → Prop
  | [], vs => vs = []
  | d :: ds, vs => ∃ v r, vs = v :: r ∧ Rep K S μ H d v ∧ Reps K S μ H ds r
end

/-- how an entry of the store lies in the heap: a list, or an object -/
def Obs (K : PySem.W.Frag) (S : Sto) (μ : Mu) (H : Hp) : List D → HO → Prop
  | .cl x ns :: fs, o => ∃ dx vs, o = .ins (He.ga K x) dx (ns.zip vs) ∧ ns.length = fs.length ∧ Reps K S μ H fs vs
  | xs, o => ∃ vs, o = .lst vs ∧ Reps K S μ H xs vs
/-- a list or an object -/
def Pl (o : HO) : Prop := (∃ vs, o = .lst vs) ∨ ∃ C dx fs, o = .ins C dx fs
theorem Obs.pl {K : PySem.W.Frag} {S : Sto} {μ : Mu} {H : Hp} {xs : List D} {o : HO} (h : Obs K S μ H xs o) : Pl o := by
  unfold Obs at h
  split at h
  · obtain ⟨dx, vs, rfl, _⟩ := h
    exact .inr ⟨_, _, _, rfl⟩
  · obtain ⟨vs, rfl, _⟩ := h
    exact .inl ⟨_, rfl⟩
theorem Obs.ls {K : PySem.W.Frag} {S : Sto} {μ : Mu} {H : Hp} {xs : List D} {o : HO} (n : isObj xs = false) (h : Obs K S μ H xs o) : ∃ vs, o = .lst vs ∧ Reps K S μ H xs vs := by
  unfold Obs at h
  split at h
  · cases n
  · exact h
theorem Obs.of {K : PySem.W.Frag} {S : Sto} {μ : Mu} {H : Hp} {xs : List D} {vs : List V} (r : Reps K S μ H xs vs) : Obs K S μ H xs (.lst vs) := by
  unfold Obs
  split
  · obtain ⟨v, r, _, h, _⟩ := r
    exact h.elim
  · exact ⟨vs, rfl, r⟩
structure Good (K : PySem.W.Frag) (S : Sto) (μ : Mu) (H : Hp) : Prop where
  len : μ.ps.length = S.length
  at_ : ∀ (i : Nat) (xs : List D), S[i]? = some (some xs) → ∃ a o, μ.ps[i]? = some a ∧ H a = some o ∧ Obs K S μ H xs o
  inj : ∀ (i j : Nat) (xs ys : List D) (a : Addr), S[i]? = some (some xs) → S[j]? = some (some ys) → μ.ps[i]? = some a → μ.ps[j]? = some a → i = j
  zl : ∀ a ∈ μ.z, ∃ vs, H a = some (.lst vs)
  zn : ∀ a ∈ μ.z, ¬ Live0 S μ a

/-- what stands is kept, but for lists that may change -/
structure EvoW (S : Sto) (μ : Mu) (H : Hp) (S' : Sto) (μ' : Mu) (H' : Hp) : Prop where
  mu : ∀ (i : Nat) (a : Addr), μ.ps[i]? = some a → μ'.ps[i]? = some a
  old : ∀ a o, H a = some o → ¬ Live S μ a → H' a = some o ∧ ¬ Live S' μ' a
structure Evo (S : Sto) (μ : Mu) (H : Hp) (S' : Sto) (μ' : Mu) (H' : Hp) : Prop where
  w : EvoW S μ H S' μ' H'
  z : μ'.z = μ.z
  hold : ∀ a o, a ∈ μ.z → H a = some o → H' a = some o

theorem EvoW.refl (S : Sto) (μ : Mu) (H : Hp) : EvoW S μ H S μ H := ⟨fun _ _ h => h, fun _ _ h n => ⟨h, n⟩⟩
theorem EvoW.trans {S μ H S1 μ1 H1 S2 μ2 H2} (a : EvoW S μ H S1 μ1 H1) (b : EvoW S1 μ1 H1 S2 μ2 H2) : EvoW S μ H S2 μ2 H2 :=
  ⟨fun i x h => b.mu i x (a.mu i x h), fun x o h n => let ⟨h1, n1⟩ := a.old x o h n; b.old x o h1 n1⟩
theorem Evo.refl (S : Sto) (μ : Mu) (H : Hp) : Evo S μ H S μ H := ⟨EvoW.refl _ _ _, rfl, fun _ _ _ h => h⟩
theorem Evo.trans {S μ H S1 μ1 H1 S2 μ2 H2} (a : Evo S μ H S1 μ1 H1) (b : Evo S1 μ1 H1 S2 μ2 H2) : Evo S μ H S2 μ2 H2 :=
  ⟨a.w.trans b.w, b.z.trans a.z, fun x o h q => b.hold x o (by rw [a.z]; exact h) (a.hold x o h q)⟩

section
variable {K : PySem.W.Frag} {S S' : Sto} {μ μ' : Mu} {H H' : Hp}

theorem Good.live (g : Good K S μ H) {a : Addr} (h : Live S μ a) : ∃ o, H a = some o ∧ Pl o := by
  rcases h with ⟨i, xs, e, m⟩ | h
  · obtain ⟨b, o, m', hb, q⟩ := g.at_ i xs e
    rw [m] at m'; cases m'
    exact ⟨o, hb, q.pl⟩
  · obtain ⟨vs, e⟩ := g.zl a h
    exact ⟨_, e, .inl ⟨vs, rfl⟩⟩
theorem Good.notLive (g : Good K S μ H) {a : Addr} (h : ∀ o, H a = some o → ¬ Pl o) : ¬ Live S μ a := fun l => by
  obtain ⟨o, e, p⟩ := g.live l
  exact h o e p
theorem notPl_tup {xs : List V} : ¬ Pl (.tup xs) := fun h => by
  rcases h with ⟨_, h⟩ | ⟨_, _, _, h⟩ <;> cases h
theorem notPl_frz {ob : Obj} {u : HO} : ¬ Pl (.frz ob u) := fun h => by
  rcases h with ⟨_, h⟩ | ⟨_, _, _, h⟩ <;> cases h
theorem notPl_dK {kvs : List (Key × V)} : ¬ Pl (.dK kvs) := fun h => by
  rcases h with ⟨_, h⟩ | ⟨_, _, _, h⟩ <;> cases h
theorem rdT (g : Good K S μ H) (e : EvoW S μ H S' μ' H') {a : Addr} {vs : List V} (h : Rd H a (.tup vs)) : Rd H' a (.tup vs) := by
  rcases h with h | ⟨o, h⟩
  · exact .inl (e.old a _ h (g.notLive fun ws q => by rw [h] at q; cases q; exact notPl_tup)).1
  · exact .inr ⟨o, (e.old a _ h (g.notLive fun ws q => by rw [h] at q; cases q; exact notPl_frz)).1⟩
theorem sqT_mono (g : Good K S μ H) (e : EvoW S μ H S' μ' H') {a : Addr} {vs : List V} (h : SqT K H a vs) : SqT K H' a vs := by
  rcases h with h | h
  · exact .inl (rdT g e h)
  · exact .inr h
theorem rdL (e : EvoW S μ H S' μ' H') {a : Addr} {vs : List V} (h : Rd H a (.lst vs)) (n : ¬ Live S μ a) : Rd H' a (.lst vs) ∧ ¬ Live S' μ' a := by
  rcases h with h | ⟨o, h⟩
  · exact ⟨.inl (e.old a _ h n).1, (e.old a _ h n).2⟩
  · exact ⟨.inr ⟨o, (e.old a _ h n).1⟩, (e.old a _ h n).2⟩
mutual
theorem Rep.mono (g : Good K S μ H) (e : EvoW S μ H S' μ' H') : ∀ {d : D} {v : V}, Rep K S μ H d v → Rep K S' μ' H' d v
  | .non, _, h => h
  | .bl _, _, h => h
  | .int _, _, h => h
  | .str _, _, h => h
  | .tup ds, _, ⟨a, vs, e1, q, r⟩ => ⟨a, vs, e1, sqT_mono g e q, Reps.mono g e r⟩
  | .lst ds, _, ⟨a, vs, e1, q, r⟩ => ⟨a, vs, e1, q.elim (fun z => .inl (rdL e z.1 z.2)) .inr, Reps.mono g e r⟩
  | .ref i, _, ⟨a, e1, m⟩ => ⟨a, e1, e.mu i a m⟩
  | .dct, _, ⟨a, kvs, e1, q⟩ => ⟨a, kvs, e1, (e.old a _ q (g.notLive fun ws z => by rw [q] at z; cases z; exact notPl_dK)).1⟩
theorem Reps.mono (g : Good K S μ H) (e : EvoW S μ H S' μ' H') : ∀ {ds : List D} {vs : List V}, Reps K S μ H ds vs → Reps K S' μ' H' ds vs
  | [], _, h => h
  | d :: ds, _, ⟨v, r, e1, h1, h2⟩ => ⟨v, r, e1, Rep.mono g e h1, Reps.mono g e h2⟩
end
theorem Obs.mono (g : Good K S μ H) (e : EvoW S μ H S' μ' H') {xs : List D} {o : HO} (h : Obs K S μ H xs o) : Obs K S' μ' H' xs o := by
  unfold Obs at h ⊢
  split at h
  · obtain ⟨dx, vs, e1, e2, q⟩ := h
    exact ⟨dx, vs, e1, e2, q.mono g e⟩
  · obtain ⟨vs, e1, q⟩ := h
    exact ⟨vs, e1, q.mono g e⟩
theorem Reps.length : ∀ {ds : List D} {vs : List V}, Reps K S μ H ds vs → ds.length = vs.length
  | [], _, h => by cases (show _ = [] from h); rfl
  | d :: ds, _, ⟨v, r, e1, _, h2⟩ => by rw [e1, List.length_cons, List.length_cons, Reps.length h2]
theorem Reps.append : ∀ {ds es : List D} {vs ws : List V}, Reps K S μ H ds vs → Reps K S μ H es ws → Reps K S μ H (ds ++ es) (vs ++ ws)
  | [], _, _, _, h, h' => by cases (show _ = [] from h); exact h'
  | d :: ds, _, _, _, ⟨v, r, e1, h1, h2⟩, h' => by subst e1; exact ⟨v, _, rfl, h1, Reps.append h2 h'⟩
theorem Reps.get : ∀ {ds : List D} {vs : List V} {i : Nat} {d : D}, Reps K S μ H ds vs → ds[i]? = some d → ∃ v, vs[i]? = some v ∧ Rep K S μ H d v
  | [], _, _, _, _, e => by simp at e
  | d :: ds, _, 0, _, ⟨v, r, e1, h1, _⟩, e => by subst e1; simp at e; subst e; exact ⟨v, rfl, h1⟩
  | d :: ds, _, i + 1, _, ⟨v, r, e1, _, h2⟩, e => by
    subst e1
    obtain ⟨w, h3, h4⟩ := Reps.get (i := i) h2 (by simpa using e)
    exact ⟨w, by simpa using h3, h4⟩
theorem Reps.take : ∀ {ds : List D} {vs : List V} (n : Nat), Reps K S μ H ds vs → Reps K S μ H (ds.take n) (vs.take n)
  | _, _, 0, _ => by simp [Reps]
  | [], _, _ + 1, h => by cases (show _ = [] from h); exact rfl
  | d :: ds, _, n + 1, ⟨v, r, e1, h1, h2⟩ => by subst e1; exact ⟨v, _, rfl, h1, Reps.take n h2⟩
theorem Reps.drop : ∀ {ds : List D} {vs : List V} (n : Nat), Reps K S μ H ds vs → Reps K S μ H (ds.drop n) (vs.drop n)
  | _, _, 0, h => h
  | [], _, _ + 1, h => by cases (show _ = [] from h); exact rfl
  | d :: ds, _, n + 1, ⟨v, r, e1, _, h2⟩ => by subst e1; exact Reps.drop n h2
theorem Reps.set {d : D} {v : V} (r : Rep K S μ H d v) : ∀ {ds : List D} {vs : List V} (i : Nat), Reps K S μ H ds vs → Reps K S μ H (ds.set i d) (vs.set i v)
  | [], _, _, h => by cases (show _ = [] from h); exact rfl
  | _ :: ds, _, 0, ⟨w, q, e1, _, h2⟩ => by subst e1; exact ⟨v, q, rfl, r, h2⟩
  | _ :: ds, _, i + 1, ⟨w, q, e1, h1, h2⟩ => by subst e1; exact ⟨w, _, rfl, h1, Reps.set r i h2⟩
theorem Reps.eraseIdx : ∀ {ds : List D} {vs : List V} (i : Nat), Reps K S μ H ds vs → Reps K S μ H (ds.eraseIdx i) (vs.eraseIdx i)
  | [], _, _, h => by cases (show _ = [] from h); exact rfl
  | _ :: ds, _, 0, ⟨w, q, e1, _, h2⟩ => by subst e1; exact h2
  | _ :: ds, _, i + 1, ⟨w, q, e1, h1, h2⟩ => by subst e1; exact ⟨w, _, rfl, h1, Reps.eraseIdx i h2⟩
theorem Reps.dropLast {ds : List D} {vs : List V} (h : Reps K S μ H ds vs) : Reps K S μ H ds.dropLast vs.dropLast := by
  rw [List.dropLast_eq_take, List.dropLast_eq_take, ← h.length]
  exact h.take _
theorem Reps.rep {ds : List D} {vs : List V} (h : Reps K S μ H ds vs) : ∀ k : Nat, Reps K S μ H (List.replicate k ds).flatten (List.replicate k vs).flatten
  | 0 => rfl
  | k + 1 => by
    rw [List.replicate_succ, List.replicate_succ, List.flatten_cons, List.flatten_cons]
    exact Reps.append h (Reps.rep h k)
theorem Reps.cut {ds : List D} {vs : List V} (h : Reps K S μ H ds vs) (lo hi : Option Int) : Reps K S μ H (cutD ds lo hi) (cutV vs lo hi) := by
  unfold cutD cutV
  rw [h.length]
  exact (h.drop _).take _

/-- a list to be read -/
def LsR (K : PySem.W.Frag) (S : Sto) (μ : Mu) (H : Hp) (xs : List D) (v : V) : Prop := ∃ a vs, v = .ref a ∧ SqP K H a vs ∧ Reps K S μ H xs vs
theorem Rep.lsR {ds : List D} {v : V} (h : Rep K S μ H (.lst ds) v) : LsR K S μ H ds v := by
  obtain ⟨a, vs, e, q, r⟩ := h
  exact ⟨a, vs, e, q.elim (fun z => .inl z.1) .inr, r⟩
/-- what a value is seen as -/
def Seen (K : PySem.W.Frag) (S : Sto) (μ : Mu) (H : Hp) : D → V → Prop
  | .lst xs, v => LsR K S μ H xs v
  | d, v => Rep K S μ H d v
theorem see_ok (g : Good K S μ H) {d d' : D} {v : V} (h : Rep K S μ H d v) (e : see S d = some d') : Seen K S μ H d' v := by
  cases d with
  | ref i =>
    unfold see at e
    simp only at e
    cases q : S[i]? with
    | none => rw [q] at e; cases e
    | some o =>
      cases o with
      | none => rw [q] at e; cases e
      | some xs =>
        rw [q] at e
        simp only at e
        split at e
        · cases e
        · rename_i no
          cases e
          obtain ⟨a, e1, m⟩ := h
          obtain ⟨b, o, m', hb, r⟩ := g.at_ i xs q
          rw [m] at m'; cases m'
          obtain ⟨vs, rfl, r2⟩ := Obs.ls (by simpa using no) r
          exact ⟨a, vs, e1, SqP.of hb, r2⟩
  | lst xs => cases e; exact h.lsR
  | non => cases e; exact h
  | bl b => cases e; exact h
  | int i => cases e; exact h
  | str x => cases e; exact h
  | tup xs => cases e; exact h
  | cl _ _ => exact h.elim
  | dct => cases e; exact h

mutual
theorem Rep.dp : ∀ {d : D} {v : V}, D.pure d = true → Rep K S μ H d v → Dp K H v d.py
  | .non, _, _, h => by cases (show _ = V.non from h); exact .non
  | .bl b, _, _, h => by cases (show _ = V.bl b from h); exact .bl b
  | .int i, _, _, h => by cases (show _ = V.int i from h); exact .int i
  | .str x, _, _, h => by cases (show _ = V.str x from h); exact .str x
  | .tup ds, _, p, ⟨a, vs, e, q, r⟩ => by subst e; exact .tup q (Reps.dp p r)
  | .lst ds, _, p, ⟨a, vs, e, q, r⟩ => by subst e; exact .lst (SqP.l (q.elim (fun z => .inl z.1) .inr)) (Reps.dp p r)
  | .ref i, _, p, _ => by cases p
theorem Reps.dp : ∀ {ds : List D} {vs : List V}, D.pures ds = true → Reps K S μ H ds vs → DpAll K H vs (D.pys ds)
  | [], _, _, h => by cases (show _ = [] from h); exact .nil
  | d :: ds, _, p, ⟨v, r, e, h1, h2⟩ => by
    subst e
    have p' : (D.pure d && D.pures ds) = true := p
    rw [Bool.and_eq_true] at p'
    exact .cons (Rep.dp p'.1 h1) (Reps.dp p'.2 h2)
end
theorem Seen.dp {d : D} {v : V} (p : D.pure d = true) (h : Seen K S μ H d v) : Dp K H v d.py := by
  cases d with
  | lst xs =>
    obtain ⟨a, vs, e, q, r⟩ := h
    subst e
    exact .lst q.l (Reps.dp p r)
  | ref i => cases p
  | non => exact Rep.dp (K := K) (S := S) (μ := μ) p h
  | bl b => exact Rep.dp (K := K) (S := S) (μ := μ) p h
  | int i => exact Rep.dp (K := K) (S := S) (μ := μ) p h
  | str x => exact Rep.dp (K := K) (S := S) (μ := μ) p h
  | tup xs => exact Rep.dp (K := K) (S := S) (μ := μ) p h
  | cl _ _ => cases p
  | dct => cases p

theorem flat_rep {d : D} {v : V} (f : d.flat = true) (h : Rep K S μ H d v) : flatV v = true ∧ ∀ S' μ' H', Rep K S' μ' H' d v := by
  cases d with
  | non => cases (show _ = V.non from h); exact ⟨rfl, fun _ _ _ => rfl⟩
  | bl b => cases (show _ = V.bl b from h); exact ⟨rfl, fun _ _ _ => rfl⟩
  | int i => cases (show _ = V.int i from h); exact ⟨rfl, fun _ _ _ => rfl⟩
  | str x => cases (show _ = V.str x from h); exact ⟨rfl, fun _ _ _ => rfl⟩
  | tup _ => cases f
  | lst _ => cases f
  | ref _ => cases f
  | cl _ _ => cases f
  | dct => cases f
theorem eqv_flat {d e : D} {v w : V} (fd : d.flat = true) (fe : e.flat = true) (h : Rep K S μ H d v) (h' : Rep K S μ H e w) : eqV v w = D.eqv d e := by
  cases d with
  | non => cases (show _ = V.non from h); cases e <;> first | (cases fe; done) | (cases h'; simp [eqV, D.eqv, D.py, PyData.eqv])
  | bl b => cases (show _ = V.bl b from h); cases e <;> first | (cases fe; done) | (cases h'; simp [eqV, D.eqv, D.py, PyData.eqv])
  | int b => cases (show _ = V.int b from h); cases e <;> first | (cases fe; done) | (cases h'; simp [eqV, D.eqv, D.py, PyData.eqv])
  | str b => cases (show _ = V.str b from h); cases e <;> first | (cases fe; done) | (cases h'; simp [eqV, D.eqv, D.py, PyData.eqv])
  | tup _ => cases fd
  | lst _ => cases fd
  | ref _ => cases fd
  | cl _ _ => cases fd
  | dct => cases fd
theorem flats_rep : ∀ {ds : List D} {vs : List V}, ds.all D.flat = true → Reps K S μ H ds vs → vs.all flatV = true
  | [], _, _, h => by cases (show _ = [] from h); rfl
  | d :: ds, _, f, ⟨v, r, e, h1, h2⟩ => by
    subst e
    rw [List.all_cons, Bool.and_eq_true] at f ⊢
    exact ⟨(flat_rep f.1 h1).1, flats_rep f.2 h2⟩
theorem inV_flat {x : D} {v : V} (fx : x.flat = true) (hx : Rep K S μ H x v) : ∀ {ds : List D} {vs : List V}, ds.all D.flat = true → Reps K S μ H ds vs → inV v vs = inFlat x ds
  | [], _, _, h => by cases (show _ = [] from h); rfl
  | d :: ds, _, f, ⟨w, r, e, h1, h2⟩ => by
    subst e
    rw [List.all_cons, Bool.and_eq_true] at f
    have q := inV_flat fx hx f.2 h2
    unfold inV inFlat at q ⊢
    rw [List.any_cons, List.any_cons, q, eqv_flat f.1 fx h1 hx]

theorem Good.none_notLive (g : Good K S μ H) {p : Addr} (h : H p = none) : ¬ Live S μ p := fun l => by
  obtain ⟨o, e, _⟩ := g.live l
  rw [h] at e; cases e
theorem evo_new (g : Good K S μ H) {p : Addr} {o : HO} (h : H p = none) : Evo S μ H S μ (upd H p o) :=
  ⟨⟨fun _ _ q => q, fun a u q n => ⟨by rw [upd_ne (ne_of_none q h)]; exact q, n⟩⟩, rfl, fun a u _ q => by rw [upd_ne (ne_of_none q h)]; exact q⟩
theorem good_new (g : Good K S μ H) {p : Addr} {o : HO} (h : H p = none) : Good K S μ (upd H p o) := by
  have e := evo_new (o := o) g h
  refine ⟨g.len, fun i xs q => ?_, g.inj, fun a ha => ?_, g.zn⟩
  · obtain ⟨a, vs, m, hh, r⟩ := g.at_ i xs q
    exact ⟨a, vs, m, by rw [upd_ne (ne_of_none hh h)]; exact hh, Obs.mono g e.w r⟩
  · obtain ⟨vs, hh⟩ := g.zl a ha
    exact ⟨vs, by rw [upd_ne (ne_of_none hh h)]; exact hh⟩
theorem rep_tup_new (g : Good K S μ H) {p : Addr} {ds : List D} {vs : List V} (h : H p = none) (r : Reps K S μ H ds vs) : Rep K S μ (upd H p (.tup vs)) (.tup ds) (.ref p) :=
  ⟨p, vs, rfl, SqT.of upd_same, r.mono g (evo_new g h).w⟩
theorem rep_lst_new (g : Good K S μ H) {p : Addr} {ds : List D} {vs : List V} (h : H p = none) (r : Reps K S μ H ds vs) : Rep K S μ (upd H p (.lst vs)) (.lst ds) (.ref p) :=
  ⟨p, vs, rfl, .inl ⟨.inl upd_same, g.none_notLive h⟩, r.mono g (evo_new g h).w⟩

theorem get_snoc {α : Type} {l : List α} {x y : α} {i : Nat} (h : (l ++ [x])[i]? = some y) : l[i]? = some y ∨ (i = l.length ∧ x = y) := by
  by_cases hi : i < l.length
  · rw [List.getElem?_append_left hi] at h; exact .inl h
  · rw [List.getElem?_append_right (by omega)] at h
    have e : i - l.length = 0 := by
      rcases Nat.eq_zero_or_pos (i - l.length) with e | e
      · exact e
      · rw [List.getElem?_eq_none (by simp; omega)] at h; cases h
    rw [e] at h
    exact .inr ⟨by omega, by simpa using h⟩
theorem get_mono {α : Type} {l r : List α} {x : α} {i : Nat} (h : l[i]? = some x) : (l ++ r)[i]? = some x := by
  rw [List.getElem?_append_left (List.getElem?_eq_some_iff.mp h).1]; exact h
theorem get_last {α : Type} {l : List α} {x : α} {n : Nat} (h : l.length = n) : (l ++ [x])[n]? = some x := by
  rw [← h, List.getElem?_append_right (Nat.le_refl _)]; simp
abbrev Mu.more (μ : Mu) (p : Addr) : Mu := ⟨μ.ps ++ [p], μ.z⟩
theorem live0_more (g : Good K S μ H) {p a : Addr} {xs : List D} (l : Live0 (S ++ [some xs]) (μ.more p) a) : Live0 S μ a ∨ a = p := by
  obtain ⟨i, ys, e1, e2⟩ := l
  rcases get_snoc e2 with m | ⟨m, z⟩
  · rcases get_snoc e1 with k | ⟨k, _⟩
    · exact .inl ⟨i, ys, k, m⟩
    · have := (List.getElem?_eq_some_iff.mp m).1
      rw [k, g.len] at this
      exact absurd this (Nat.lt_irrefl _)
  · exact .inr z.symm
/-- the state around, without what speaks of p -/
structure Apart (K : PySem.W.Frag) (S : Sto) (μ : Mu) (H : Hp) (p : Addr) (vs : List V) : Prop where
  g : Good K S μ H
  nl : ¬ Live S μ p
theorem evo_mk (g : Good K S μ H) {p : Addr} {xs : List D} {o : HO} (h : H p = none) : Evo S μ H (S ++ [some xs]) (μ.more p) (upd H p o) :=
  ⟨⟨fun i a m => get_mono m, fun a u q n => ⟨by rw [upd_ne (ne_of_none q h)]; exact q, fun l => by
    rcases l with l | l
    · rcases live0_more g l with l | l
      · exact n (.inl l)
      · subst l
        rw [h] at q; cases q
    · exact n (.inr l)⟩⟩, rfl, fun a u _ q => by rw [upd_ne (ne_of_none q h)]; exact q⟩
theorem good_mk2 (g : Good K S μ H) {p : Addr} {xs : List D} {o : HO} (h : H p = none) (r : Obs K S μ H xs o) : Good K (S ++ [some xs]) (μ.more p) (upd H p o) := by
  have e : Evo S μ H (S ++ [some xs]) (μ.more p) (upd H p o) := evo_mk g h
  have low : ∀ (i : Nat) (ys : List D), (S ++ [some xs])[i]? = some (some ys) → (S[i]? = some (some ys)) ∨ (i = S.length ∧ xs = ys) := fun i ys q => by
    rcases get_snoc q with k | ⟨k, z⟩
    · exact .inl k
    · exact .inr ⟨k, Option.some.inj z⟩
  refine ⟨by rw [List.length_append, List.length_append, g.len]; rfl, fun i ys q => ?_, fun i j ys zs a q1 q2 m1 m2 => ?_, fun a ha => ?_, fun a ha l => ?_⟩
  · rcases low i ys q with k | ⟨k, z⟩
    · obtain ⟨a, ws, m, ha, rr⟩ := g.at_ i ys k
      exact ⟨a, ws, get_mono m, by rw [upd_ne (ne_of_none ha h)]; exact ha, Obs.mono g e.w rr⟩
    · subst z
      exact ⟨p, o, get_last (by rw [k, g.len]), upd_same, Obs.mono g e.w r⟩
  · have pos : ∀ (i : Nat) (ys : List D), (S ++ [some xs])[i]? = some (some ys) → (μ.ps ++ [p])[i]? = some a → (S[i]? = some (some ys) ∧ μ.ps[i]? = some a) ∨ (i = S.length ∧ a = p) := fun i ys q m => by
      rcases low i ys q with k | ⟨k, _⟩
      · left
        refine ⟨k, ?_⟩
        rcases get_snoc m with z | ⟨z, _⟩
        · exact z
        · have := (List.getElem?_eq_some_iff.mp k).1
          rw [z, g.len] at this
          exact absurd this (Nat.lt_irrefl _)
      · right
        refine ⟨k, ?_⟩
        rw [get_last (by rw [k, g.len])] at m
        exact (Option.some.inj m).symm
    rcases pos i ys q1 m1 with ⟨k1, n1⟩ | ⟨k1, n1⟩
    · rcases pos j zs q2 m2 with ⟨k2, n2⟩ | ⟨k2, n2⟩
      · exact g.inj i j ys zs a k1 k2 n1 n2
      · subst n2
        exact absurd (.inl ⟨i, ys, k1, n1⟩) (g.none_notLive h)
    · rcases pos j zs q2 m2 with ⟨k2, n2⟩ | ⟨k2, n2⟩
      · subst n1
        exact absurd (.inl ⟨j, zs, k2, n2⟩) (g.none_notLive h)
      · rw [k1, k2]
  · obtain ⟨ws, q⟩ := g.zl a ha
    exact ⟨ws, by rw [upd_ne (ne_of_none q h)]; exact q⟩
  · rcases live0_more g l with l | l
    · exact g.zn a ha l
    · subst l
      obtain ⟨ws, q⟩ := g.zl a ha
      rw [h] at q; cases q

theorem good_mk (g : Good K S μ H) {p : Addr} {xs : List D} {vs : List V} (h : H p = none) (r : Reps K S μ H xs vs) : Good K (S ++ [some xs]) (μ.more p) (upd H p (.lst vs)) := good_mk2 g h (Obs.of r)

theorem live0_set {i : Nat} {x : Option (List D)} {a : Addr} (h : Live0 (S.set i x) μ a) : Live0 S μ a ∨ (μ.ps[i]? = some a ∧ i < S.length ∧ x ≠ none) := by
  obtain ⟨j, ys, e, m⟩ := h
  by_cases hj : i = j
  · subst hj
    by_cases hi : i < S.length
    · rw [List.getElem?_set_self hi] at e
      exact .inr ⟨m, hi, by intro z; rw [z] at e; cases e⟩
    · rw [List.getElem?_eq_none (by rw [List.length_set]; omega)] at e; cases e
  · rw [List.getElem?_set_ne hj] at e
    exact .inl ⟨j, ys, e, m⟩
theorem evo_put (g : Good K S μ H) {i : Nat} {a : Addr} {xs ys : List D} {o : HO} (hi : S[i]? = some (some xs)) (m : μ.ps[i]? = some a) : Evo S μ H (S.set i (some ys)) μ (upd H a o) := by
  have la : Live0 S μ a := ⟨i, xs, hi, m⟩
  refine ⟨⟨fun _ _ q => q, fun b u q n => ⟨by rw [upd_ne fun z => by subst z; exact n (.inl la)]; exact q, fun l => ?_⟩⟩, rfl, fun b u hb q => by rw [upd_ne fun z => by subst z; exact g.zn _ hb la]; exact q⟩
  rcases l with l | l
  · rcases live0_set l with k | ⟨k, _, _⟩
    · exact n (.inl k)
    · rw [m] at k; cases k
      exact n (.inl la)
  · exact n (.inr l)
theorem good_put2 (g : Good K S μ H) {i : Nat} {a : Addr} {xs ys : List D} {o : HO} (hi : S[i]? = some (some xs)) (m : μ.ps[i]? = some a) (r : Obs K S μ H ys o) :
    Good K (S.set i (some ys)) μ (upd H a o) := by
  have e : Evo S μ H (S.set i (some ys)) μ (upd H a o) := evo_put g hi m
  have la : Live0 S μ a := ⟨i, xs, hi, m⟩
  have lt := (List.getElem?_eq_some_iff.mp hi).1
  have low : ∀ (j : Nat) (zs : List D), (S.set i (some ys))[j]? = some (some zs) → ∃ ws, S[j]? = some (some ws) ∧ (i ≠ j → ws = zs) ∧ (i = j → ys = zs) := fun j zs q => by
    by_cases h : i = j
    · subst h
      rw [List.getElem?_set_self lt] at q
      exact ⟨xs, hi, fun z => absurd rfl z, fun _ => Option.some.inj (Option.some.inj q)⟩
    · rw [List.getElem?_set_ne h] at q
      exact ⟨zs, q, fun _ => rfl, fun z => absurd z h⟩
  refine ⟨by rw [List.length_set]; exact g.len, fun j zs q => ?_, fun j k zs ws b q1 q2 m1 m2 => ?_, fun b hb => ?_, fun b hb l => ?_⟩
  · obtain ⟨ws, q0, ne, eq⟩ := low j zs q
    obtain ⟨b, us, mb, hb, rr⟩ := g.at_ j ws q0
    by_cases h : i = j
    · subst h
      have z := eq rfl
      subst z
      rw [m] at mb; cases mb
      exact ⟨a, o, m, upd_same, Obs.mono g e.w r⟩
    · have z := ne h
      subst z
      refine ⟨b, us, mb, ?_, Obs.mono g e.w rr⟩
      rw [upd_ne fun z => h (g.inj i j xs ws a hi q0 m (by rw [← z]; exact mb))]; exact hb
  · obtain ⟨ws1, q1', _, _⟩ := low j zs q1
    obtain ⟨ws2, q2', _, _⟩ := low k ws q2
    exact g.inj j k ws1 ws2 b q1' q2' m1 m2
  · obtain ⟨us, q⟩ := g.zl b hb
    exact ⟨us, by rw [upd_ne fun z => by subst z; exact g.zn _ hb la]; exact q⟩
  · rcases live0_set l with k | ⟨k, _, _⟩
    · exact g.zn b hb k
    · rw [m] at k; cases k
      exact g.zn a hb la
theorem good_put (g : Good K S μ H) {i : Nat} {a : Addr} {xs ys : List D} {vs : List V} (hi : S[i]? = some (some xs)) (m : μ.ps[i]? = some a) (r : Reps K S μ H ys vs) :
    Good K (S.set i (some ys)) μ (upd H a (.lst vs)) := good_put2 g hi m (Obs.of r)
theorem evo_drop {i : Nat} : Evo S μ H (S.set i none) μ H :=
  ⟨⟨fun _ _ q => q, fun b u q n => ⟨q, fun l => by
    rcases l with l | l
    · rcases live0_set l with k | ⟨_, _, k⟩
      · exact n (.inl k)
      · exact k rfl
    · exact n (.inr l)⟩⟩, rfl, fun _ _ _ q => q⟩
theorem low_drop {i : Nat} (j : Nat) (zs : List D) (q : (S.set i none)[j]? = some (some zs)) : S[j]? = some (some zs) ∧ i ≠ j := by
  by_cases h : i = j
  · subst h
    by_cases lt : i < S.length
    · rw [List.getElem?_set_self lt] at q; cases q
    · rw [List.getElem?_eq_none (by rw [List.length_set]; omega)] at q; cases q
  · rw [List.getElem?_set_ne h] at q
    exact ⟨q, h⟩
theorem good_drop (g : Good K S μ H) {i : Nat} : Good K (S.set i none) μ H := by
  have e : Evo S μ H (S.set i none) μ H := evo_drop
  refine ⟨by rw [List.length_set]; exact g.len, fun j zs q => ?_, fun j k zs ws b q1 q2 m1 m2 => g.inj j k zs ws b (low_drop j zs q1).1 (low_drop k ws q2).1 m1 m2, g.zl, fun a ha l => ?_⟩
  · obtain ⟨b, us, mb, hb, rr⟩ := g.at_ j zs (low_drop j zs q).1
    exact ⟨b, us, mb, hb, rr.mono g e.w⟩
  · rcases live0_set l with k | ⟨_, _, k⟩
    · exact g.zn a ha k
    · exact k rfl
theorem rep_drop (g : Good K S μ H) {i : Nat} {xs : List D} {v : V} (hi : S[i]? = some (some xs)) (no : isObj xs = false) (r : Rep K S μ H (.ref i) v) : Rep K (S.set i none) μ H (.lst xs) v := by
  obtain ⟨a, e1, m⟩ := r
  obtain ⟨b, o, m', hb, r0⟩ := g.at_ i xs hi
  rw [m] at m'; cases m'
  obtain ⟨vs, rfl, rr⟩ := Obs.ls no r0
  refine ⟨a, vs, e1, .inl ⟨.inl hb, fun l => ?_⟩, rr.mono g evo_drop.w⟩
  rcases l with ⟨j, ys, e, mj⟩ | l
  · obtain ⟨q, ne⟩ := low_drop j ys e
    exact ne (g.inj i j xs ys a hi q m mj)
  · exact g.zn a l ⟨i, xs, hi, m⟩

abbrev Mu.take (μ : Mu) (n : Nat) : Mu := ⟨μ.ps.take n, μ.z⟩
theorem live0_take {n : Nat} {a : Addr} (h : Live0 (S.take n) (μ.take n) a) : Live0 S μ a := by
  obtain ⟨i, xs, e, m⟩ := h
  rw [List.getElem?_take] at e m
  split at e
  · rename_i hlt
    rw [if_pos hlt] at m
    exact ⟨i, xs, e, m⟩
  · cases e
theorem live_take {n : Nat} {a : Addr} (h : Live (S.take n) (μ.take n) a) : Live S μ a := h.elim (fun l => .inl (live0_take l)) .inr
mutual
theorem Rep.forget {S1 : Sto} {μ1 : Mu} (lv : ∀ a, Live S1 μ1 a → Live S μ a) : ∀ {d : D} {v : V}, D.pure d = true → Rep K S μ H d v → Rep K S1 μ1 H d v
  | .non, _, _, h => h
  | .bl _, _, _, h => h
  | .int _, _, _, h => h
  | .str _, _, _, h => h
  | .tup ds, _, p, ⟨a, vs, e1, q, r⟩ => ⟨a, vs, e1, q, Reps.forget lv p r⟩
  | .lst ds, _, p, ⟨a, vs, e1, q, r⟩ => ⟨a, vs, e1, q.elim (fun z => .inl ⟨z.1, fun l => z.2 (lv a l)⟩) .inr, Reps.forget lv p r⟩
  | .ref i, _, p, _ => by cases p
theorem Reps.forget {S1 : Sto} {μ1 : Mu} (lv : ∀ a, Live S1 μ1 a → Live S μ a) : ∀ {ds : List D} {vs : List V}, D.pures ds = true → Reps K S μ H ds vs → Reps K S1 μ1 H ds vs
  | [], _, _, h => h
  | d :: ds, _, p, ⟨v, r, e1, h1, h2⟩ => by
    have p' : (D.pure d && D.pures ds) = true := p
    rw [Bool.and_eq_true] at p'
    exact ⟨v, r, e1, Rep.forget lv p'.1 h1, Reps.forget lv p'.2 h2⟩
end
mutual
theorem Rep.under {n : Nat} : ∀ {d : D} {v : V}, D.under n d = true → Rep K S μ H d v → Rep K (S.take n) (μ.take n) H d v
  | .non, _, _, h => h
  | .bl _, _, _, h => h
  | .int _, _, _, h => h
  | .str _, _, _, h => h
  | .tup ds, _, p, ⟨a, vs, e1, q, r⟩ => ⟨a, vs, e1, q, Reps.under p r⟩
  | .lst ds, _, p, ⟨a, vs, e1, q, r⟩ => ⟨a, vs, e1, q.elim (fun z => .inl ⟨z.1, fun l => z.2 (live_take l)⟩) .inr, Reps.under p r⟩
  | .ref i, _, p, ⟨a, e1, m⟩ => ⟨a, e1, by
    have p' : decide (i < n) = true := p
    rw [List.getElem?_take, if_pos (of_decide_eq_true p')]
    exact m⟩
  | .dct, _, _, h => h
theorem Reps.under {n : Nat} : ∀ {ds : List D} {vs : List V}, D.unders n ds = true → Reps K S μ H ds vs → Reps K (S.take n) (μ.take n) H ds vs
  | [], _, _, h => h
  | d :: ds, _, p, ⟨v, r, e1, h1, h2⟩ => by
    have p' : (D.under n d && D.unders n ds) = true := p
    rw [Bool.and_eq_true] at p'
    exact ⟨v, r, e1, Rep.under p'.1 h1, Reps.under p'.2 h2⟩
end
theorem Obs.under {n : Nat} {xs : List D} {o : HO} (p : D.unders n xs = true) (h : Obs K S μ H xs o) : Obs K (S.take n) (μ.take n) H xs o := by
  unfold Obs at h ⊢
  split at h
  · obtain ⟨dx, vs, e1, e2, q⟩ := h
    have p' : (true && D.unders n _) = true := p
    rw [Bool.true_and] at p'
    exact ⟨dx, vs, e1, e2, Reps.under p' q⟩
  · obtain ⟨vs, e1, q⟩ := h
    exact ⟨vs, e1, Reps.under p q⟩
mutual
theorem Rep.forget0 {S1 : Sto} {μ1 : Mu} (lv : ∀ a, Live S1 μ1 a → Live S μ a) : ∀ {d : D} {v : V}, D.under 0 d = true → Rep K S μ H d v → Rep K S1 μ1 H d v
  | .non, _, _, h => h
  | .bl _, _, _, h => h
  | .int _, _, _, h => h
  | .str _, _, _, h => h
  | .tup ds, _, p, ⟨a, vs, e1, q, r⟩ => ⟨a, vs, e1, q, Reps.forget0 lv p r⟩
  | .lst ds, _, p, ⟨a, vs, e1, q, r⟩ => ⟨a, vs, e1, q.elim (fun z => .inl ⟨z.1, fun l => z.2 (lv a l)⟩) .inr, Reps.forget0 lv p r⟩
  | .ref i, _, p, _ => by simp [D.under] at p
  | .dct, _, _, h => h
theorem Reps.forget0 {S1 : Sto} {μ1 : Mu} (lv : ∀ a, Live S1 μ1 a → Live S μ a) : ∀ {ds : List D} {vs : List V}, D.unders 0 ds = true → Reps K S μ H ds vs → Reps K S1 μ1 H ds vs
  | [], _, _, h => h
  | d :: ds, _, p, ⟨v, r, e1, h1, h2⟩ => by
    have p' : (D.under 0 d && D.unders 0 ds) = true := p
    rw [Bool.and_eq_true] at p'
    exact ⟨v, r, e1, Rep.forget0 lv p'.1 h1, Reps.forget0 lv p'.2 h2⟩
end
theorem good_take (g : Good K S μ H) (n : Nat) (cl : closedS n (S.take n) = true) : Good K (S.take n) (μ.take n) H := by
  have low : ∀ (i : Nat) (xs : List D), (S.take n)[i]? = some (some xs) → S[i]? = some (some xs) ∧ i < n := fun i xs q => by
    rw [List.getElem?_take] at q
    split at q
    · rename_i h
      exact ⟨q, h⟩
    · cases q
  refine ⟨by rw [List.length_take, List.length_take, g.len], fun i xs q => ?_, fun i j xs ys a q1 q2 m1 m2 => ?_, g.zl, fun a ha l => g.zn a ha (live0_take l)⟩
  · obtain ⟨q0, lt⟩ := low i xs q
    obtain ⟨a, vs, m, h, r⟩ := g.at_ i xs q0
    exact ⟨a, vs, by rw [List.getElem?_take, if_pos lt]; exact m, h, Obs.under (List.all_eq_true.mp cl (some xs) (List.mem_of_getElem? q)) r⟩
  · obtain ⟨q1', lt1⟩ := low i xs q1
    obtain ⟨q2', lt2⟩ := low j ys q2
    rw [List.getElem?_take, if_pos lt1] at m1
    rw [List.getElem?_take, if_pos lt2] at m2
    exact g.inj i j xs ys a q1' q2' m1 m2
theorem evo_take {n : Nat} (hn : n = μ.ps.length) (e : Evo S μ H S' μ' H') : Evo S μ H (S'.take n) (μ'.take n) H' :=
  ⟨⟨fun i a m => by
    have lt := (List.getElem?_eq_some_iff.mp m).1
    rw [List.getElem?_take, if_pos (by omega)]
    exact e.w.mu i a m, fun a o q k => ⟨(e.w.old a o q k).1, fun l => (e.w.old a o q k).2 (live_take l)⟩⟩, e.z, e.hold⟩

abbrev Mu.hold (μ : Mu) (p : Addr) : Mu := ⟨μ.ps, p :: μ.z⟩
theorem live_hold {p a : Addr} (h : Live S (μ.hold p) a) : Live S μ a ∨ a = p := by
  rcases h with h | h
  · exact .inl (.inl h)
  · rcases List.mem_cons.mp h with z | z
    · exact .inr z
    · exact .inl (.inr z)
theorem evoW_begin (g : Good K S μ H) {p : Addr} {o : HO} (h : H p = none) : EvoW S μ H S (μ.hold p) (upd H p o) :=
  ⟨fun _ _ q => q, fun a u q n => ⟨by rw [upd_ne (ne_of_none q h)]; exact q, fun l => by
    rcases live_hold l with l | l
    · exact n l
    · subst l
      rw [h] at q; cases q⟩⟩
theorem good_begin (g : Good K S μ H) {p : Addr} {vs : List V} (h : H p = none) : Good K S (μ.hold p) (upd H p (.lst vs)) := by
  have e := evoW_begin (o := .lst vs) g h
  refine ⟨g.len, fun i xs q => ?_, g.inj, fun a ha => ?_, fun a ha l => ?_⟩
  · obtain ⟨a, ws, m, hh, r⟩ := g.at_ i xs q
    exact ⟨a, ws, m, by rw [upd_ne (ne_of_none hh h)]; exact hh, r.mono g e⟩
  · rcases List.mem_cons.mp ha with z | z
    · subst z
      exact ⟨vs, upd_same⟩
    · obtain ⟨ws, q⟩ := g.zl a z
      exact ⟨ws, by rw [upd_ne (ne_of_none q h)]; exact q⟩
  · rcases List.mem_cons.mp ha with z | z
    · subst z
      exact g.none_notLive h (.inl l)
    · exact g.zn a z l
/-- one item more -/
theorem evoW_grow {p : Addr} {o : HO} (hp : p ∈ μ.z) : EvoW S μ H S μ (upd H p o) :=
  ⟨fun _ _ q => q, fun a u q n => ⟨by rw [upd_ne fun z => by subst z; exact n (.inr hp)]; exact q, n⟩⟩
theorem good_grow (g : Good K S μ H) {p : Addr} {vs : List V} (hp : p ∈ μ.z) : Good K S μ (upd H p (.lst vs)) := by
  refine ⟨g.len, fun i xs q => ?_, g.inj, fun a ha => ?_, g.zn⟩
  · obtain ⟨a, ws, m, hh, r⟩ := g.at_ i xs q
    exact ⟨a, ws, m, by rw [upd_ne fun z => by subst z; exact g.zn _ hp ⟨i, xs, q, m⟩]; exact hh, r.mono g (evoW_grow hp)⟩
  · by_cases z : a = p
    · subst z
      exact ⟨vs, upd_same⟩
    · obtain ⟨ws, q⟩ := g.zl a ha
      exact ⟨ws, by rw [upd_ne z]; exact q⟩
/-- the list is made: a value -/
theorem live_unhold {p a : Addr} (h : Live S μ a) : Live S (μ.hold p) a := h.elim .inl fun z => .inr (List.mem_cons_of_mem _ z)
theorem evoW_end {p : Addr} : EvoW S (μ.hold p) H S μ H := ⟨fun _ _ q => q, fun a u q n => ⟨q, fun l => n (live_unhold l)⟩⟩
theorem good_end (g : Good K S (μ.hold p) H) : Good K S μ H :=
  ⟨g.len, fun i xs q => by
    obtain ⟨a, ws, m, hh, r⟩ := g.at_ i xs q
    exact ⟨a, ws, m, hh, r.mono g evoW_end⟩, g.inj, fun a ha => g.zl a (List.mem_cons_of_mem _ ha), fun a ha l => g.zn a (List.mem_cons_of_mem _ ha) l⟩
/-- the list is made: a place -/
theorem good_place (g : Good K S (μ.hold p) H) (np : p ∉ μ.z) {xs : List D} {vs : List V} (hp : H p = some (.lst vs)) (r : Reps K S (μ.hold p) H xs vs) : Good K (S ++ [some xs]) (μ.more p) H ∧ EvoW S (μ.hold p) H (S ++ [some xs]) (μ.more p) H := by
  have g0 : Good K S μ H := good_end g
  have nl : ¬ Live0 S μ p := g.zn p List.mem_cons_self
  have e : EvoW S (μ.hold p) H (S ++ [some xs]) (μ.more p) H := ⟨fun i a m => get_mono m, fun a u q n => ⟨q, fun l => by
    rcases l with l | l
    · rcases live0_more g0 l with l | l
      · exact n (.inl l)
      · subst l
        exact n (.inr List.mem_cons_self)
    · exact n (.inr (List.mem_cons_of_mem _ l))⟩⟩
  have low : ∀ (i : Nat) (ys : List D), (S ++ [some xs])[i]? = some (some ys) → (S[i]? = some (some ys)) ∨ (i = S.length ∧ xs = ys) := fun i ys q => by
    rcases get_snoc q with k | ⟨k, z⟩
    · exact .inl k
    · exact .inr ⟨k, Option.some.inj z⟩
  refine ⟨⟨by rw [List.length_append, List.length_append, g0.len]; rfl, fun i ys q => ?_, fun i j ys zs a q1 q2 m1 m2 => ?_, fun a ha => g0.zl a ha, fun a ha l => ?_⟩, e⟩
  · rcases low i ys q with k | ⟨k, z⟩
    · obtain ⟨a, ws, m, ha, rr⟩ := g.at_ i ys k
      exact ⟨a, ws, get_mono m, ha, rr.mono g e⟩
    · subst z
      exact ⟨p, .lst vs, get_last (by rw [k, g0.len]), hp, Obs.of (r.mono g e)⟩
  · have pos : ∀ (i : Nat) (ys : List D), (S ++ [some xs])[i]? = some (some ys) → (μ.ps ++ [p])[i]? = some a → (S[i]? = some (some ys) ∧ μ.ps[i]? = some a) ∨ (i = S.length ∧ a = p) := fun i ys q m => by
      rcases low i ys q with k | ⟨k, _⟩
      · left
        refine ⟨k, ?_⟩
        rcases get_snoc m with z | ⟨z, _⟩
        · exact z
        · have := (List.getElem?_eq_some_iff.mp k).1
          rw [z, g0.len] at this
          exact absurd this (Nat.lt_irrefl _)
      · right
        refine ⟨k, ?_⟩
        rw [get_last (by rw [k, g0.len])] at m
        exact (Option.some.inj m).symm
    rcases pos i ys q1 m1 with ⟨k1, n1⟩ | ⟨k1, n1⟩
    · rcases pos j zs q2 m2 with ⟨k2, n2⟩ | ⟨k2, n2⟩
      · exact g0.inj i j ys zs a k1 k2 n1 n2
      · subst n2
        exact absurd ⟨i, ys, k1, n1⟩ nl
    · rcases pos j zs q2 m2 with ⟨k2, n2⟩ | ⟨k2, n2⟩
      · subst n1
        exact absurd ⟨j, zs, k2, n2⟩ nl
      · rw [k1, k2]
  · rcases live0_more g0 l with l | l
    · exact g0.zn a ha l
    · subst l
      exact np ha
end

structure RelS (K : PySem.W.Frag) (S : Sto) (μ : Mu) (H : Hp) (ρ : Env) (σ : L2.St) : Prop where
  len : ρ.length = σ.length
  at_ : ∀ (i : Nat) (d : D), ρ[i]? = some (some d) → ∃ v, σ[i]? = some (some v) ∧ Rep K S μ H d v
section
variable {K : PySem.W.Frag} {S S' : Sto} {μ μ' : Mu} {H H' : Hp} {ρ : Env} {σ : L2.St}
theorem RelS.mono (g : Good K S μ H) (e : EvoW S μ H S' μ' H') (r : RelS K S μ H ρ σ) : RelS K S' μ' H' ρ σ :=
  ⟨r.len, fun i d q => let ⟨v, h1, h2⟩ := r.at_ i d q; ⟨v, h1, h2.mono g e⟩⟩
theorem RelS.set (r : RelS K S μ H ρ σ) {d : D} {v : V} (i : Nat) (h : Rep K S μ H d v) : RelS K S μ H (ρ.set i (some d)) (σ.set i (some v)) :=
  ⟨by rw [List.length_set, List.length_set]; exact r.len, fun j c q => by
    by_cases hj : i = j
    · subst hj
      by_cases lt : i < ρ.length
      · rw [List.getElem?_set_self lt] at q
        cases q
        exact ⟨v, by rw [List.getElem?_set_self (by rw [← r.len]; exact lt)], h⟩
      · rw [List.getElem?_eq_none (by rw [List.length_set]; omega)] at q; cases q
    · rw [List.getElem?_set_ne hj] at q
      obtain ⟨w, h1, h2⟩ := r.at_ j c q
      exact ⟨w, by rw [List.getElem?_set_ne hj]; exact h1, h2⟩⟩
theorem RelS.drop (r : RelS K S μ H ρ σ) (i : Nat) : RelS K S μ H (ρ.set i none) (σ.set i none) :=
  ⟨by rw [List.length_set, List.length_set]; exact r.len, fun j c q => by
    by_cases hj : i = j
    · subst hj
      by_cases lt : i < ρ.length
      · rw [List.getElem?_set_self lt] at q; cases q
      · rw [List.getElem?_eq_none (by rw [List.length_set]; omega)] at q; cases q
    · rw [List.getElem?_set_ne hj] at q
      obtain ⟨w, h1, h2⟩ := r.at_ j c q
      exact ⟨w, by rw [List.getElem?_set_ne hj]; exact h1, h2⟩⟩
end
end Iv

set_option Elab.async false
set_option linter.all false
set_option maxRecDepth 100000
set_option maxHeartbeats 1000000
namespace Iv
open PySem PySem.Spec PyProof.Rows L2

theorem small_line {n : Nat} (h : small n = true) : n ≤ sizeLine := by
  have := of_decide_eq_true (show decide (n ≤ 100000) = true from h)
  rw [sizeLine_eq]; omega
theorem small_le {n : Nat} (h : small n = true) : n ≤ 100000 := of_decide_eq_true (show decide (n ≤ 100000) = true from h)
theorem small_lt {n : Nat} (h : small (n + 1) = true) : n < sizeLine := by
  have := small_le h
  rw [sizeLine_eq]; omega

section
variable {X : Cx} {pins : List (Addr × Obj)} {s : Shared} {σ : L2.St} {H : Hp} {S : Sto} {μ : Mu} {v w : V} {u1 u2 : Value} {Q : VK}

/-- behind an operation that makes a value -/
abbrev Cont (K : PySem.W.Frag) (S : Sto) (μ : Mu) (H : Hp) (z : D) (Q : VK) : Prop := ∀ v' H', Good K S μ H' → Evo S μ H S μ H' → Rep K S μ H' z v' → Q v' H'

theorem cont_here {K : PySem.W.Frag} {z : D} {v : V} (g : Good K S μ H) (k : Cont K S μ H z Q) (h : Rep K S μ H z v) : Q v H := k v H g (Evo.refl _ _ _) h
theorem cont_tup {K : PySem.W.Frag} {ds : List D} {vs : List V} (g : Good K S μ H) (k : Cont K S μ H (.tup ds) Q) (r : Reps K S μ H ds vs) : ∀ p, H p = none → Q (.ref p) (upd H p (.tup vs)) :=
  fun _ hp => k _ _ (good_new g hp) (evo_new g hp) (rep_tup_new g hp r)
theorem cont_lst {K : PySem.W.Frag} {ds : List D} {vs : List V} (g : Good K S μ H) (k : Cont K S μ H (.lst ds) Q) (r : Reps K S μ H ds vs) : ∀ p, H p = none → Q (.ref p) (upd H p (.lst vs)) :=
  fun _ hp => k _ _ (good_new g hp) (evo_new g hp) (rep_lst_new g hp r)

/-- list + list, both read -/
theorem cat_lists {a b : Addr} {xs ys : List V} (I : Inv X pins σ H s) (ha : SqP X.K H a xs) (hb : SqP X.K H b ys) (hz : xs.length + ys.length ≤ sizeLine) (q : ∀ p, H p = none → Q (.ref p) (upd H p (.lst (xs ++ ys)))) :
    wpAny (model X.prog X.w) X.A (binaryOp .Add (.ref a) (.ref b)) (EP X pins σ Q) X.xe s := by
  obtain ⟨z, its, n, r, hl, e⟩ := ha.plain I
  obtain ⟨z2, its2, n2, r2, hl2, e2⟩ := hb.plain I
  refine PySem.P.add_list e e2 ?_ (by rw [List.size_toArray, List.size_toArray]; omega)
  have ea : its.toArray ++ its2.toArray = (its ++ its2).toArray := by simp
  rw [ea]
  exact ⟨.ref _, _, I.lnew (t' := s.toks) (r.append r2) (by rw [List.length_append]; omega), rfl, q _ I.fresh⟩

theorem Reps.many {K : PySem.W.Frag} {S : Sto} {μ : Mu} {H : Hp} {ds : List D} {vs : List V} (h : Reps K S μ H ds vs) : ∀ m : Nat, Reps K S μ H (List.replicate m ds).flatten (List.replicate m vs).flatten
  | 0 => rfl
  | m + 1 => by
    rw [List.replicate_succ, List.replicate_succ, List.flatten_cons, List.flatten_cons]
    exact h.append (Reps.many h m)
/-- list * int, the list read -/
theorem times_list {a : Addr} {xs : List V} {j : Int} {t : Tok} (I : Inv X pins σ H s) (ha : SqP X.K H a xs) (j1 : -100000 ≤ j) (j2 : j ≤ 100000) (hz : xs.length * j.toNat ≤ sizeLine) (q : ∀ p, H p = none → Q (.ref p) (upd H p (.lst (List.replicate j.toNat xs).flatten))) :
    wpAny (model X.prog X.w) X.A (binaryOp .Mult (.ref a) (.int j t)) (EP X pins σ Q) X.xe s := by
  obtain ⟨z, us, m, r, hl, e⟩ := ha.plain I
  have hm : us.length = xs.length := r.length.symm
  have g1 : us.toArray.size * j.toNat ≤ sizeLine := by
    rw [List.size_toArray, hm]
    exact hz
  have g2 : ¬ us.toArray.size * j.toNat > (2 ^ 63 - 1) / 8 := by
    have z0 := sizeLine_eq
    omega
  have g3 : ¬ (!Builtin.List.listFitsIndex j) = true := by rw [fitsIndex_both (by omega) (by omega)]; exact Bool.false_ne_true
  have g4 : ¬ Builtin.List.listTooLong (us.toArray.size * j.toNat) = true := by rw [notLongL g1]; exact Bool.false_ne_true
  have g5 : ∀ m : Nat, List.foldl (fun x1 x2 => x1 ++ x2) #[] (List.replicate m us.toArray) = (List.replicate m us).flatten.toArray := fun m => by
    have := foldl_rep us m []
    simpa using this
  have g6 : List.foldl (fun x1 x2 => x1 ++ x2) #[] (List.replicate (if us.toArray.isEmpty = true then 0 else j.toNat) us.toArray) = (List.replicate j.toNat us).flatten.toArray := by
    rw [g5]
    by_cases hu : us = []
    · subst hu; simp
    · rw [if_neg (by simpa using hu)]
  refine wpAny_binaryOp_repeat_ref (T := "list") (U := "int") (by decide) ⟨_, e, rfl⟩ (fun st => typeIs_int st j t) noFill_list_mul F.fills_int_mul F.slot_int_rmul repeat_list F.slot_int_index.lookup ?_
  refine call_meets F.slot_int_rmul (typeIs_int s j t) F.entry_int_rmul (F.args_int_rmul_2 _ _) (int___rmul___int_list j t a us.toArray m) ⟨e, rfl, ⟨_, e, rfl⟩, ?_⟩
  refine call_meets F.slot_list_mul ⟨_, e, rfl⟩ F.entry_list_mul (F.args_list_mul_2 _ _) (AutoListH.list___mul___list_int_3 a us.toArray m j t g3 g2 g4) ⟨e, ?_⟩
  rw [g6]
  refine ⟨.ref _, _, I.lnew (t' := s.toks) (r.rep j.toNat) ?_, rfl, q _ I.fresh⟩
  rw [PyProof.Rows.lm_len_rep_flat, Nat.mul_comm]
  exact hz

/-- tuple + tuple -/
theorem cat_tups {a b : Addr} {xs ys : List V} (I : Inv X pins σ H s) (ha : SqT X.K H a xs) (hb : SqT X.K H b ys) (hz : xs.length + ys.length ≤ sizeLine) (q0 : xs = [] → Q (.ref b) H) (q1 : ys = [] → Q (.ref a) H)
    (q : ∀ p, H p = none → Q (.ref p) (upd H p (.tup (xs ++ ys)))) :
    wpAny (model X.prog X.w) X.A (binaryOp .Add (.ref a) (.ref b)) (EP X pins σ Q) X.xe s := by
  by_cases h : xs = []
  · subst h
    obtain ⟨its, r, ⟨⟨cls, dd, data, sl⟩, ho, hc, n, hd⟩, _⟩ := I.tuple ha
    obtain ⟨its2, r2, ⟨⟨cls2, dd2, data2, sl2⟩, ho2, hc2, n2, hd2⟩, _⟩ := I.tuple hb
    simp only at hc hd hc2 hd2
    subst hc hd hc2 hd2
    cases r
    exact concat_meets ⟨_, ho, rfl⟩ ⟨_, ho2, rfl⟩ noFill_tuple_add seq_tuple_add PySem.F.slot_tuple_add PySem.F.entry_tuple_add (PySem.F.args_tuple_add_2 _ _)
      (tuple_addW0 a b _ its2.toArray n n2 dd dd2 sl sl2 (by simp)) ⟨ho, ho2, ⟨.ref b, H, I.tok _, rfl, q0 rfl⟩⟩
  · exact op_catT pins s σ H (.ref a) (.ref b) _ _ Q I rfl rfl ⟨a, b, xs, ys, rfl, rfl, ha, hb, h, hz, q1, fun _ => q⟩

theorem natAbs_log {i : Int} {k : Nat} (h : i.natAbs < 2 ^ k) (hk : 0 < k) : i.natAbs.log2 < k := PySem.Flt.log2_lt_of hk h

theorem rep_size : ∀ (n : Nat) (a acc : Array Nat), ((List.replicate n a).foldl (· ++ ·) acc).size = acc.size + n * a.size
  | 0, a, acc => by simp
  | n + 1, a, acc => by
    rw [List.replicate_succ, List.foldl_cons, rep_size n a (acc ++ a), Array.size_append, Nat.succ_mul]
    omega
/-- a op b -/
theorem opD_run {o : Operator} {x y z : D} (e : opD o x y = some z) (I : Inv X pins σ H s) (g : Good X.K S μ H) (hx : Seen X.K S μ H x v) (hy : Seen X.K S μ H y w) (r1 : RelV v u1) (r2 : RelV w u2) (k : Cont X.K S μ H z Q) :
    wpAny (model X.prog X.w) X.A (binaryOp o u1 u2) (EP X pins σ Q) X.xe s := by
  unfold opD at e
  split at e
  · cases e
    cases (show v = V.int _ from hx); cases (show w = V.int _ from hy)
    exact op_add pins s σ H _ _ u1 u2 Q I r1 r2 ⟨_, _, rfl, rfl, cont_here g k rfl⟩
  · cases e
    cases (show v = V.int _ from hx); cases (show w = V.int _ from hy)
    exact op_sub pins s σ H _ _ u1 u2 Q I r1 r2 ⟨_, _, rfl, rfl, cont_here g k rfl⟩
  · split at e
    · rename_i h
      cases e
      rw [Bool.or_eq_true, Bool.or_eq_true, Bool.and_eq_true, decide_eq_true_eq, decide_eq_true_eq, decide_eq_true_eq, decide_eq_true_eq] at h
      cases (show v = V.int _ from hx); cases (show w = V.int _ from hy)
      rcases h with h | h
      · exact op_mul pins s σ H _ _ u1 u2 Q I r1 r2 ⟨_, _, rfl, rfl, h.elim (fun z => .inl ⟨by omega, by omega⟩) (fun z => .inr ⟨by omega, by omega⟩), cont_here g k rfl⟩
      exact op_mulW pins s σ H _ _ u1 u2 Q I r1 r2 ⟨_, _, rfl, rfl, wide_mul h.1 h.2 (by decide) (by decide) (by decide), cont_here g k rfl⟩
    · cases e
  · split at e
    · rename_i h
      cases e
      rw [Bool.and_eq_true, decide_eq_true_eq, decide_eq_true_eq] at h
      cases (show v = V.int _ from hx); cases (show w = V.int _ from hy)
      exact op_fdivW pins s σ H _ _ u1 u2 Q I r1 r2 ⟨_, _, rfl, rfl, wide_div h.1 h.2 (by decide) (by decide), cont_here g k rfl⟩
    · cases e
  · split at e
    · rename_i h
      cases e
      rw [decide_eq_true_eq] at h
      cases (show v = V.int _ from hx); cases (show w = V.int _ from hy)
      exact op_mod pins s σ H _ _ u1 u2 Q I r1 r2 ⟨_, _, rfl, rfl, h, cont_here g k rfl⟩
    · cases e
  · split at e
    · rename_i h
      cases e
      rw [Bool.and_eq_true, Bool.and_eq_true, decide_eq_true_eq, decide_eq_true_eq, decide_eq_true_eq] at h
      cases (show v = V.int _ from hx); cases (show w = V.int _ from hy)
      exact op_pow pins s σ H _ _ u1 u2 Q I r1 r2 ⟨_, _, rfl, rfl, ⟨h.1.1, by have := h.1.2; omega, h.2⟩, cont_here g k rfl⟩
    · cases e
  · split at e
    · rename_i h
      cases e
      cases (show v = V.str _ from hx); cases (show w = V.str _ from hy)
      exact op_add_str pins s σ H _ _ u1 u2 Q I r1 r2 ⟨_, _, rfl, rfl, small_line h, cont_here g k rfl⟩
    · cases e
  · split at e
    · rename_i h
      cases e
      obtain ⟨a, vs, rfl, qa, ra⟩ := hx
      obtain ⟨b, ws, rfl, qb, rb⟩ := hy
      cases r1; cases r2
      have hl := small_line h
      rw [ra.length, rb.length] at hl
      refine cat_tups I qa qb hl (fun z => ?_) (fun z => ?_) (cont_tup g k (ra.append rb))
      · subst z
        have e0 := ra.length
        rw [List.length_nil, List.length_eq_zero_iff] at e0
        subst e0
        exact cont_here g k ⟨b, ws, rfl, qb, rb⟩
      · subst z
        have e0 := rb.length
        rw [List.length_nil, List.length_eq_zero_iff] at e0
        subst e0
        exact cont_here g k ⟨a, vs, rfl, qa, by rw [List.append_nil]; exact ra⟩
    · cases e
  · split at e
    · rename_i h
      cases e
      obtain ⟨a, vs, rfl, qa, ra⟩ := hx
      obtain ⟨b, ws, rfl, qb, rb⟩ := hy
      cases r1; cases r2
      have hl := small_line h
      rw [ra.length, rb.length] at hl
      exact cat_lists I qa qb hl (cont_lst g k (ra.append rb))
    · cases e
  · split at e
    · rename_i h
      cases e
      rw [Bool.and_eq_true, Bool.and_eq_true, Bool.and_eq_true, decide_eq_true_eq, decide_eq_true_eq, decide_eq_true_eq, decide_eq_true_eq] at h
      obtain ⟨a, vs, rfl, qa, ra⟩ := hx
      cases (show w = V.int _ from hy)
      have hl := ra.length
      refine op_repT pins s σ H _ _ u1 u2 Q I r1 r2 ⟨a, _, vs, rfl, rfl, qa, fun z => ?_, h.2.1, h.2.2, by omega, cont_tup g k (ra.many _)⟩
      rw [z] at hl
      have := h.1.1
      simp only [List.length_nil] at hl
      omega
    · cases e
  · split at e
    · rename_i x n h
      cases e
      rw [Bool.and_eq_true, Bool.and_eq_true, Bool.and_eq_true, decide_eq_true_eq, decide_eq_true_eq, decide_eq_true_eq] at h
      obtain ⟨hz, h0, h2, h3⟩ := h
      cases (show v = V.str _ from hx)
      cases (show w = V.int _ from hy)
      obtain ⟨t, rfl⟩ := r1
      obtain ⟨t2, rfl⟩ := r2
      have hz2 := small_le hz
      have hz3 := small_line hz
      have lt : ((x.length : Nat) : Int) ≤ 100000 := by
        have : x.length ≤ x.length * n.toNat := Nat.le_mul_of_pos_right _ (by omega)
        omega
      refine PySem.P.mul_str ?_ (fun _ _ => ?_) (fun _ _ => ?_) ?_
      · rw [decide_eq_false (by omega), decide_eq_false (by omega)]; rfl
      · have d1 : (9223372036854775807 : Int) / 1000 ≤ 9223372036854775807 / n := by
          apply Int.le_ediv_of_mul_le (by omega)
          have : (9223372036854775807 : Int) / 1000 * n ≤ 9223372036854775807 / 1000 * 1000 := Int.mul_le_mul_of_nonneg_left h3 (by decide)
          omega
        have d2 : (9223372036854775807 : Int) / 1000 = 9223372036854775 := by decide
        rw [d2] at d1
        show ¬ ((x.length : Int) > 9223372036854775807 / n)
        omega
      · show decide (x.length * n.toNat > sizeLine) = false
        rw [decide_eq_false (by omega)]
      · rw [if_neg (by omega), if_neg (by
          rw [Bool.or_eq_true]
          rintro (z | z)
          · have := eq_of_beq z; omega
          · have := eq_of_beq z; omega)]
        exact ⟨by show Array.size _ ≤ _; rw [rep_size, Array.size_empty, Nat.zero_add, Nat.mul_comm]; exact hz3, V.str _, H, I.tok _, ⟨_, rfl⟩, cont_here g k rfl⟩
    · cases e
  · split at e
    · rename_i h
      cases e
      rw [Bool.and_eq_true, Bool.and_eq_true, decide_eq_true_eq, decide_eq_true_eq] at h
      obtain ⟨a, vs, rfl, qa, ra⟩ := hx
      cases (show w = V.int _ from hy)
      cases r1
      obtain ⟨t, rfl⟩ := r2
      have hl := small_line h.1
      rw [ra.length] at hl
      exact times_list I qa h.2.1 h.2.2 hl (cont_lst g k (ra.many _))
    · cases e
  · cases e

section
open PySem.MeetsSeq PySem.AutoSeq1
theorem str_eq_declines_dict (b : Str) (u : Tok) (l : Addr) (c : Value) (es : Array DictEntry) (n : Nat) (dd : Option Addr) (sl : Array (Option Value)) :
    Meets (Builtin.«str.__eq__» ⟨[.str b u, .ref l], []⟩) (fun _ R s => s.heap.get? l = some { cls := c, dict := dd, data := .dict es n, slots := sl } ∧ R (.ok (.ret .notImplemented)) s) :=
  .of_wp fun prog w A R s h => by obtain ⟨hp, g, d, tk, os⟩ := s; obtain ⟨hl, h⟩ := h; wp_walk using wpAny_loadPart' hl, wpAny_load hl; exact ⟨_, rfl, h⟩
theorem dict_eq_declines_str (l : Addr) (es : Array DictEntry) (n : Nat) (dd : Option Addr) (sl : Array (Option Value)) (b : Str) (u : Tok) :
    Meets (Builtin.«dict.__eq__» ⟨[.ref l, .str b u], []⟩) (fun _ R s => s.heap.get? l = some { cls := .type "dict", dict := dd, data := .dict es n, slots := sl } ∧ R (.ok (.ret .notImplemented)) s) :=
  .of_wp fun prog w A R s h => by obtain ⟨hp, g, d, tk, os⟩ := s; obtain ⟨hl, h⟩ := h; have f1 := PySem.F.sub_str_dict; wp_walk using wpAny_loadPart' hl; exact ⟨_, rfl, h⟩
theorem RcAt_str_dict {A : Around} {s : Shared} {l : Addr} {o : Obj} {es : Array DictEntry} {n : Nat} (b : Str) (u : Tok) (ho : s.heap.get? l = some o) (hc : o.cls = .type "dict") (hd : o.data = .dict es n) (hu : A.units < cLine) : SeqAt.RcAt A s (.str b u) (.ref l) false := fun prog w E Q h => by
  obtain ⟨cls, dd, data, sl⟩ := o
  simp only at hc hd
  subst hc hd
  exact SeqAt.rc_eq_decline_or (k := false) (typeIs_str s b u) ⟨_, ho, rfl⟩ (by decide) PySem.F.sub_dict_str PySem.F.slot_str_eq PySem.F.slot_dict_eq_refl
    (fun _ hq => call_meets PySem.F.slot_str_eq (typeIs_str s b u) PySem.F.entry_str_eq (PySem.F.args_str_eq_2 _ _) (str_eq_declines_dict b u l (.type "dict") es n dd sl) ⟨ho, hq⟩)
    (fun _ hq => call_meets PySem.F.slot_dict_eq_refl ⟨_, ho, rfl⟩ PySem.F.entry_dict_eq (PySem.F.args_dict_eq_2 _ _) (dict_eq_declines_str l es n dd sl b u) ⟨ho, hq⟩)
    (fun _ hq => wpAny_of_eq (rfl : isSame (.str b u) (.ref l) = pure false) hq) (.inr hu) h
theorem EqAt_str_dict {A : Around} {s : Shared} {l : Addr} {o : Obj} {es : Array DictEntry} {n : Nat} (b : Str) (u : Tok) (ho : s.heap.get? l = some o) (hc : o.cls = .type "dict") (hd : o.data = .dict es n) (hu : A.units < cLine) : SeqAt.EqAt A s (.str b u) (.ref l) false := fun prog w E Q h => by
  unfold eqBool
  refine wpAny_holding ?_
  refine wpAny_ite_split (fun hab => absurd (eq_of_beq hab) nofun) (fun _ => ?_)
  exact wpAny_bind (RcAt_str_dict b u ho hc hd hu prog w E _ (wpAny_truthy_bool h))
end
theorem strs_vals {K : PySem.W.Frag} {S : Sto} {μ : Mu} {H : Hp} : ∀ {ys : List D} {vs : List V} {us : List Value}, ys.all D.isStr = true → Reps K S μ H ys vs → Vals vs us → ∀ z ∈ us, ∃ b t, z = Value.str b t
  | [], _, _, _, h, r => by
    cases (show _ = [] from h)
    cases r
    exact fun z hz => by cases hz
  | d :: ys, _, _, f, ⟨v, r, e, h1, h2⟩, rv => by
    subst e
    rw [List.all_cons, Bool.and_eq_true] at f
    cases rv with
    | cons r1 r2 =>
      intro z hz
      rcases List.mem_cons.mp hz with hz | hz
      · subst hz
        cases d with
        | str x =>
          cases (show v = V.str x from h1)
          obtain ⟨t, e⟩ := r1
          exact ⟨x, t, e⟩
        | _ => cases f.1
      · exact strs_vals f.2 h2 r2 z hz
/-- a dict among texts -/
theorem dctIn_run (hu : X.A.units + 190 < cLine) {x : D} {ys : List D} (fx : x.isDct = true) (fy : ys.all D.isStr = true) (I : Inv X pins σ H s) (hx : Seen X.K S μ H x v) (hy : Seen X.K S μ H (.tup ys) w) (r1 : RelV v u1) (r2 : RelV w u2) :
    (Q (.bl false) H → wpAny (model X.prog X.w) X.A (compareOp .In u1 u2) (EP X pins σ Q) X.xe s) ∧ (Q (.bl true) H → wpAny (model X.prog X.w) X.A (compareOp .NotIn u1 u2) (EP X pins σ Q) X.xe s) := by
  cases x with
  | dct =>
    obtain ⟨a, kvs, rfl, ha⟩ := hx
    obtain ⟨b, vs, rfl, qb, rb⟩ := hy
    cases r1
    cases r2
    obtain ⟨_, _, es0, _, o, es, ep, ho, hc, hd, _⟩ := dk_of I.hok ha
    obtain ⟨its, rv, ht, _⟩ := I.tuple qb
    have hz := strs_vals fy rb rv
    have hu1 : X.A.in1.units < cLine := by show X.A.units + 1 < cLine; omega
    have he : ∀ y, y ∈ its.toArray → SeqAt.EqAt X.A.in1 s y (.ref a) ((fun _ => false) y) := fun y hy => by
      obtain ⟨c, t, rfl⟩ := hz y (by simpa using hy)
      exact EqAt_str_dict c t ho hc.1 hd hu1
    have hf : its.toArray.any (fun _ => false) = false := by simp
    exact ⟨fun q => SeqAt.in_tupleAt _ ht he ⟨.bl _, H, I, rfl, by rw [hf]; exact q⟩, fun q => SeqAt.notIn_tupleAt _ ht he ⟨.bl _, H, I, rfl, by rw [hf]; exact q⟩⟩
  | _ => cases fx
theorem any_py (x : D) : ∀ ys : List D, ((D.pys ys).any fun y => PyData.eqv y x.py) = inFlat x ys
  | [] => rfl
  | y :: ys => by
    have ih := any_py x ys
    unfold inFlat at ih ⊢
    show ((D.py y :: D.pys ys).any _) = _
    rw [List.any_cons, List.any_cons, ih]
    rfl
/-- data among data -/
theorem okIn_run (hu : X.A.units + 190 < cLine) {x : D} {ys : List D} (ox : x.ok = true) (oy : (D.tup ys).ok = true) (I : Inv X pins σ H s) (hx : Seen X.K S μ H x v) (hy : Seen X.K S μ H (.tup ys) w) (r1 : RelV v u1) (r2 : RelV w u2) :
    (Q (.bl (inFlat x ys)) H → wpAny (model X.prog X.w) X.A (compareOp .In u1 u2) (EP X pins σ Q) X.xe s) ∧ (Q (.bl (!inFlat x ys)) H → wpAny (model X.prog X.w) X.A (compareOp .NotIn u1 u2) (EP X pins σ Q) X.xe s) := by
  unfold D.ok at ox oy
  rw [Bool.and_eq_true, Bool.and_eq_true, decide_eq_true_eq] at ox oy
  obtain ⟨as, d1⟩ := Dp.reads I x.py v u1 (hx.dp ox.1.1) r1
  obtain ⟨bs, d2⟩ := Dp.reads I (D.tup ys).py w u2 (hy.dp oy.1.1) r2
  have c2 : PyData.canLayAll0 (D.pys ys) = true := by
    have z := oy.1.2
    simpa [D.py, PyData.canLay0] using z
  have hd : PyData.depthAll (D.pys ys) + 1 ≤ 190 := by
    have z := oy.2
    simpa [D.py, PyData.depth] using z
  have room : X.A.units + 1 + min (PyData.depthAll (D.pys ys)) x.py.depth < cLine := by
    have h2 : min (PyData.depthAll (D.pys ys)) x.py.depth ≤ PyData.depthAll (D.pys ys) := Nat.min_le_left _ _
    omega
  have d2' : Reads s.heap u2 (.tuple (D.pys ys)) bs := by
    have z := d2
    rw [D.py] at z
    exact z
  exact ⟨fun q => SeqAt.in_tuple_reads d2' d1 c2 ox.1.2 room (by rw [any_py]; exact ⟨.bl _, H, I, rfl, q⟩), fun q => SeqAt.notIn_tuple_reads d2' d1 c2 ox.1.2 room (by rw [any_py]; exact ⟨.bl _, H, I, rfl, q⟩)⟩
/-- == of data -/
theorem eqD_run (hu : X.A.units + 190 < cLine) {x y : D} (ox : x.ok = true) (oy : y.ok = true) (I : Inv X pins σ H s) (hx : Seen X.K S μ H x v) (hy : Seen X.K S μ H y w) (r1 : RelV v u1) (r2 : RelV w u2) (q : Q (.bl (D.eqv x y)) H) :
    wpAny (model X.prog X.w) X.A (compareOp .Eq u1 u2) (EP X pins σ Q) X.xe s := by
  unfold D.ok at ox oy
  rw [Bool.and_eq_true, Bool.and_eq_true, decide_eq_true_eq] at ox oy
  obtain ⟨as, d1⟩ := Dp.reads I x.py v u1 (hx.dp ox.1.1) r1
  obtain ⟨bs, d2⟩ := Dp.reads I y.py w u2 (hy.dp oy.1.1) r2
  refine SeqAt.compareEq_reads d1 d2 ox.1.2 oy.1.2 ?_ ⟨.bl _, H, I, rfl, q⟩
  have h1 := ox.2
  have h2 : min x.py.depth y.py.depth ≤ x.py.depth := Nat.min_le_left _ _
  omega
theorem neD_run (hu : X.A.units + 190 < cLine) {x y : D} (ox : x.ok = true) (oy : y.ok = true) (I : Inv X pins σ H s) (hx : Seen X.K S μ H x v) (hy : Seen X.K S μ H y w) (r1 : RelV v u1) (r2 : RelV w u2) (q : Q (.bl (!D.eqv x y)) H) :
    wpAny (model X.prog X.w) X.A (compareOp .NotEq u1 u2) (EP X pins σ Q) X.xe s := by
  unfold D.ok at ox oy
  rw [Bool.and_eq_true, Bool.and_eq_true, decide_eq_true_eq] at ox oy
  obtain ⟨as, d1⟩ := Dp.reads I x.py v u1 (hx.dp ox.1.1) r1
  obtain ⟨bs, d2⟩ := Dp.reads I y.py w u2 (hy.dp oy.1.1) r2
  refine SeqAt.compareNe_reads d1 d2 ox.1.2 oy.1.2 ?_ ⟨.bl _, H, I, rfl, q⟩
  have h1 := ox.2
  have h2 : min x.py.depth y.py.depth ≤ x.py.depth := Nat.min_le_left _ _
  omega

theorem Seen.flat {x : D} (f : x.flat = true) (h : Seen X.K S μ H x v) : Rep X.K S μ H x v := by
  cases x with
  | lst _ => cases f
  | tup _ => cases f
  | ref _ => cases f
  | cl _ _ => cases f
  | dct => cases f
  | non => exact h
  | bl _ => exact h
  | int _ => exact h
  | str _ => exact h
theorem one_sign {c : Str} (h : (c.length == 1) = true) : c = ⟨#[c.cps.getD 0 0]⟩ := by
  obtain ⟨cps⟩ := c
  have e : cps.size = 1 := by simpa [Str.length] using h
  obtain ⟨l⟩ := cps
  simp only [List.size_toArray] at e
  match l, e with
  | [a], _ => rfl
/-- a op b, compared -/
theorem cmpD_run (hu : X.A.units + 190 < cLine) {o : CmpOp} {x y : D} {b : Bool} (e : cmpD o x y = some b) (I : Inv X pins σ H s) (hx : Seen X.K S μ H x v) (hy : Seen X.K S μ H y w) (r1 : RelV v u1) (r2 : RelV w u2) (q : Q (.bl b) H) :
    wpAny (model X.prog X.w) X.A (compareOp o u1 u2) (EP X pins σ Q) X.xe s := by
  cases o with
  | Eq =>
    simp only [cmpD] at e
    split at e
    · cases e
      cases (show v = V.int _ from hx); cases (show w = V.int _ from hy)
      refine op_eq pins s σ H _ _ u1 u2 Q I r1 r2 ⟨rfl, ?_⟩
      rw [show decide (V.int _ = V.int _) = decide (_ = _) from decide_eq_decide.mpr ⟨fun z => V.int.inj z, fun z => congrArg V.int z⟩]
      exact q
    · cases e
      cases (show v = V.str _ from hx); cases (show w = V.str _ from hy)
      refine op_eq pins s σ H _ _ u1 u2 Q I r1 r2 ⟨rfl, ?_⟩
      rw [show decide (V.str _ = V.str _) = decide (_ = _) from decide_eq_decide.mpr ⟨fun z => V.str.inj z, fun z => congrArg V.str z⟩]
      exact q
    · split at e
      · rename_i h
        cases e
        rw [Bool.and_eq_true] at h
        exact eqD_run hu h.1 h.2 I hx hy r1 r2 q
      · cases e
  | NotEq =>
    simp only [cmpD] at e
    split at e
    · cases e
      cases (show v = V.int _ from hx); cases (show w = V.int _ from hy)
      refine op_ne pins s σ H _ _ u1 u2 Q I r1 r2 ⟨rfl, ?_⟩
      rw [show decide (V.int _ = V.int _) = decide (_ = _) from decide_eq_decide.mpr ⟨fun z => V.int.inj z, fun z => congrArg V.int z⟩]
      exact q
    · cases e
      cases (show v = V.str _ from hx); cases (show w = V.str _ from hy)
      refine op_ne pins s σ H _ _ u1 u2 Q I r1 r2 ⟨rfl, ?_⟩
      rw [show decide (V.str _ = V.str _) = decide (_ = _) from decide_eq_decide.mpr ⟨fun z => V.str.inj z, fun z => congrArg V.str z⟩]
      exact q
    · split at e
      · rename_i h
        cases e
        rw [Bool.and_eq_true] at h
        exact neD_run hu h.1 h.2 I hx hy r1 r2 q
      · cases e
  | Lt =>
    simp only [cmpD] at e
    split at e
    · cases e
      cases (show v = V.int _ from hx); cases (show w = V.int _ from hy)
      exact op_lt pins s σ H _ _ u1 u2 Q I r1 r2 ⟨_, _, rfl, rfl, q⟩
    · cases e
  | LtE =>
    simp only [cmpD] at e
    split at e
    · cases e
      cases (show v = V.int _ from hx); cases (show w = V.int _ from hy)
      exact op_le pins s σ H _ _ u1 u2 Q I r1 r2 ⟨_, _, rfl, rfl, q⟩
    · cases e
  | Gt =>
    simp only [cmpD] at e
    split at e
    · cases e
      cases (show v = V.int _ from hx); cases (show w = V.int _ from hy)
      exact op_gt pins s σ H _ _ u1 u2 Q I r1 r2 ⟨_, _, rfl, rfl, q⟩
    · cases e
  | GtE =>
    simp only [cmpD] at e
    split at e
    · cases e
      cases (show v = V.int _ from hx); cases (show w = V.int _ from hy)
      exact op_ge pins s σ H _ _ u1 u2 Q I r1 r2 ⟨_, _, rfl, rfl, q⟩
    · cases e
  | Is =>
    simp only [cmpD] at e
    split at e
    · cases e
      cases (show v = V.bl _ from hx); cases (show w = V.bl _ from hy)
      exact op_isBl pins s σ H _ _ u1 u2 Q I r1 r2 ⟨_, _, rfl, rfl, q⟩
    · cases e
      cases (show v = V.non from hx); cases (show w = V.non from hy)
      exact op_isN pins s σ H _ _ u1 u2 Q I r1 r2 ⟨rfl, q⟩
    · rename_i hne
      cases e
      cases (show w = V.non from hy)
      have hv : v ≠ V.non := by
        intro z
        subst z
        cases x with
        | non => exact hne rfl
        | bl _ => cases (show V.non = V.bl _ from hx)
        | int _ => cases (show V.non = V.int _ from hx)
        | str _ => cases (show V.non = V.str _ from hx)
        | tup _ => obtain ⟨_, _, e, _⟩ := hx; cases e
        | lst _ => obtain ⟨_, _, e, _⟩ := hx; cases e
        | ref _ => obtain ⟨_, e, _⟩ := hx; cases e
        | cl _ _ => exact hx
        | dct => obtain ⟨_, _, e, _⟩ := hx; cases e
      exact op_isN pins s σ H _ _ u1 u2 Q I r1 r2 ⟨rfl, by rw [decide_eq_false hv]; exact q⟩
    · cases e
  | IsNot =>
    simp only [cmpD] at e
    split at e
    · cases e
      cases (show v = V.bl _ from hx); cases (show w = V.bl _ from hy)
      exact op_notBl pins s σ H _ _ u1 u2 Q I r1 r2 ⟨_, _, rfl, rfl, q⟩
    · cases e
      cases (show v = V.non from hx); cases (show w = V.non from hy)
      exact op_notN pins s σ H _ _ u1 u2 Q I r1 r2 ⟨rfl, q⟩
    · rename_i hne
      cases e
      cases (show w = V.non from hy)
      have hv : v ≠ V.non := by
        intro z
        subst z
        cases x with
        | non => exact hne rfl
        | bl _ => cases (show V.non = V.bl _ from hx)
        | int _ => cases (show V.non = V.int _ from hx)
        | str _ => cases (show V.non = V.str _ from hx)
        | tup _ => obtain ⟨_, _, e, _⟩ := hx; cases e
        | lst _ => obtain ⟨_, _, e, _⟩ := hx; cases e
        | ref _ => obtain ⟨_, e, _⟩ := hx; cases e
        | cl _ _ => exact hx
        | dct => obtain ⟨_, _, e, _⟩ := hx; cases e
      exact op_notN pins s σ H _ _ u1 u2 Q I r1 r2 ⟨rfl, by rw [decide_eq_false hv]; exact q⟩
    · cases e
  | In =>
    simp only [cmpD] at e
    split at e
    · split at e
      · rename_i h
        cases e
        rw [Bool.and_eq_true] at h
        obtain ⟨a, vs, rfl, qa, ra⟩ := hy
        have f := flat_rep h.1 (hx.flat h.1)
        refine op_in_seq pins s σ H _ _ u1 u2 Q I r1 r2 ⟨a, vs, rfl, .inl qa.l, f.1, flats_rep h.2 ra, ?_⟩
        rw [if_neg Bool.false_ne_true, inV_flat h.1 (hx.flat h.1) h.2 ra]
        exact q
      · cases e
    · split at e
      · rename_i h
        cases e
        rw [Bool.and_eq_true] at h
        obtain ⟨a, vs, rfl, qa, ra⟩ := hy
        have f := flat_rep h.1 (hx.flat h.1)
        refine op_in_seq pins s σ H _ _ u1 u2 Q I r1 r2 ⟨a, vs, rfl, .inr qa, f.1, flats_rep h.2 ra, ?_⟩
        rw [if_neg Bool.false_ne_true, inV_flat h.1 (hx.flat h.1) h.2 ra]
        exact q
      · split at e
        · rename_i h
          cases e
          rw [Bool.and_eq_true] at h
          exact (okIn_run hu h.1 h.2 I hx hy r1 r2).1 q
        · split at e
          · rename_i h
            cases e
            rw [Bool.and_eq_true] at h
            exact (dctIn_run hu h.1 h.2 I hx hy r1 r2).1 q
          · cases e
    · split at e
      · split at e
        · rename_i h
          cases e
          cases (show v = V.str _ from hx); cases (show w = V.str _ from hy)
          exact op_in_sign pins s σ H _ _ u1 u2 Q I r1 r2 ⟨_, _, congrArg V.str (one_sign h), rfl, q⟩
        · cases e
      · cases e
    · cases e
  | NotIn =>
    simp only [cmpD] at e
    split at e
    · split at e
      · rename_i h
        cases e
        rw [Bool.and_eq_true] at h
        obtain ⟨a, vs, rfl, qa, ra⟩ := hy
        have f := flat_rep h.1 (hx.flat h.1)
        refine op_notIn_seq pins s σ H _ _ u1 u2 Q I r1 r2 ⟨a, vs, rfl, .inl qa.l, f.1, flats_rep h.2 ra, ?_⟩
        rw [if_pos rfl, inV_flat h.1 (hx.flat h.1) h.2 ra]
        exact q
      · cases e
    · split at e
      · rename_i h
        cases e
        rw [Bool.and_eq_true] at h
        obtain ⟨a, vs, rfl, qa, ra⟩ := hy
        have f := flat_rep h.1 (hx.flat h.1)
        refine op_notIn_seq pins s σ H _ _ u1 u2 Q I r1 r2 ⟨a, vs, rfl, .inr qa, f.1, flats_rep h.2 ra, ?_⟩
        rw [if_pos rfl, inV_flat h.1 (hx.flat h.1) h.2 ra]
        exact q
      · split at e
        · rename_i h
          cases e
          rw [Bool.and_eq_true] at h
          exact (okIn_run hu h.1 h.2 I hx hy r1 r2).2 q
        · split at e
          · rename_i h
            cases e
            rw [Bool.and_eq_true] at h
            exact (dctIn_run hu h.1 h.2 I hx hy r1 r2).2 q
          · cases e
    · split at e
      · split at e
        · rename_i h
          cases e
          cases (show v = V.str _ from hx); cases (show w = V.str _ from hy)
          exact op_notIn_sign pins s σ H _ _ u1 u2 Q I r1 r2 ⟨_, _, congrArg V.str (one_sign h), rfl, q⟩
        · cases e
      · cases e
    · cases e

theorem Reps.atI {ds : List D} {vs : List V} (h : Reps X.K S μ H ds vs) {i : Int} {d : D} (e : atI ds i = some d) : ∃ v, L2.atI vs i = some v ∧ Rep X.K S μ H d v := by
  unfold L2.atI at e ⊢
  rw [← h.length]
  cases q : ixN ds.length i with
  | none => rw [q] at e; cases e
  | some j =>
    rw [q] at e
    exact h.get e
/-- x[i] -/
theorem ixD_run {value slice : Expr} {x i z : D} (e : ixD x i = some z) (I : Inv X pins σ H s) (g : Good X.K S μ H) (hx : Seen X.K S μ H x v) (hi : Rep X.K S μ H i w) (r1 : RelV v u1) (r2 : RelV w u2) (k : Cont X.K S μ H z Q)
    (hs : subscripted slice false u1 u2 = operate [u1, u2] (getItem u1 u2)) : wpAny (model X.prog X.w) X.A (subscriptTail value slice u1 u2) (EP X pins σ Q) X.xe s := by
  unfold ixD at e
  split at e
  · cases (show w = V.int _ from hi)
    obtain ⟨a, vs, rfl, qa, ra⟩ := hx
    obtain ⟨z', h1, h2⟩ := ra.atI e
    exact ix_list value slice pins s σ H _ _ u1 u2 Q I r1 r2 ⟨a, vs, _, z', rfl, rfl, qa.l, h1, cont_here g k h2⟩ hs
  · cases (show w = V.int _ from hi)
    obtain ⟨a, vs, rfl, qa, ra⟩ := hx
    obtain ⟨z', h1, h2⟩ := ra.atI e
    exact ix_tup value slice pins s σ H _ _ u1 u2 Q I r1 r2 ⟨a, vs, _, z', rfl, rfl, qa, h1, cont_here g k h2⟩ hs
  · cases (show w = V.int _ from hi)
    cases (show v = V.str _ from hx)
    split at e
    · rename_i h
      cases q : L2.atI _ _ with
      | none => rw [q] at e; cases e
      | some c =>
        rw [q] at e
        cases e
        exact ix_str value slice pins s σ H _ _ u1 u2 Q I r1 r2 ⟨_, _, c, rfl, rfl, small_line h, q, cont_here g k rfl⟩ hs
    · cases e
  · cases e
end
end Iv

set_option Elab.async false
set_option linter.all false
set_option maxRecDepth 100000
set_option maxHeartbeats 1000000
namespace Iv
open PySem PySem.Spec PyProof.Rows L2

section
variable {X : Cx} {pins : List (Addr × Obj)} {s : Shared} {σ : L2.St} {H : Hp} {S : Sto} {μ : Mu} {Q : VK}
/-- an item's value -/
def ItemR (K : PySem.W.Frag) (S : Sto) (μ : Mu) (H : Hp) (u : Value) (d : D) : Prop := ∃ v, RelV v u ∧ Rep K S μ H d v
theorem each_reps {K : PySem.W.Frag} : ∀ {us : List Value} {vs : List V} {ds : List D}, Vals vs us → Reps K S μ H ds vs → PySem.W.EachIs (ItemR K S μ H) us ds
  | us, vs, [], r, h => by
    cases (show vs = [] from h)
    cases r
    exact .nil
  | us, vs, d :: ds, r, ⟨v, vs', e, h1, h2⟩ => by
    subst e
    cases r with
    | cons r1 r2 => exact .cons ⟨v, r1, h1⟩ (each_reps r2 h2)
theorem reps_each {K : PySem.W.Frag} : ∀ {us : List Value} {ds : List D}, PySem.W.EachIs (ItemR K S μ H) us ds → ∃ vs, Vals vs us ∧ Reps K S μ H ds vs
  | _, _, .nil => ⟨[], .nil, rfl⟩
  | _, _, .cons ⟨v, r1, h1⟩ t => by
    obtain ⟨vs, r2, h2⟩ := reps_each t
    exact ⟨v :: vs, .cons r1 r2, v, vs, rfl, h1, h2⟩
theorem sortD_eq (xs : List D) : sortD xs = xs.mergeSort (PySem.W.dataLe false D.py) := by
  rw [PySem.W.dataLe_eq]
  rfl
theorem sortD_len (xs : List D) : (sortD xs).length = xs.length := (List.mergeSort_perm _ _).length_eq
/-- sorted of a list -/
theorem sort_run {a : Addr} {xs : List D} {ws : List V} {us : List Value} (hu : X.A.units + 200 < cLine) (h : sortOk xs = true) (I : Inv X pins σ H s) (r : Vals [V.ref a] us) (qa : SqP X.K H a ws) (ra : Reps X.K S μ H xs ws)
    (k : ∀ ws', Reps X.K S μ H (sortD xs) ws' → ∀ p, H p = none → Q (.ref p) (upd H p (.lst ws'))) : wpAny (model X.prog X.w) X.A (call (.builtin "sorted") us) (EP X pins σ Q) X.xe s := by
  unfold sortOk at h
  rw [Bool.and_eq_true, Bool.and_eq_true, Bool.and_eq_true, Bool.and_eq_true] at h
  obtain ⟨⟨⟨⟨h1, h2⟩, h3⟩, h4⟩, h5⟩ := h
  rw [Vals.ref1 r]
  obtain ⟨z, its, n, rv, hl, e⟩ := qa.plain I
  have hL : s.heap.IsList a its.toArray := ⟨_, e, rfl, n, rfl⟩
  have E1 := each_reps (S := S) (μ := μ) rv ra
  have er : PySem.W.EachIs (fun v d => ∃ as, PySem.Reads s.heap v d.py as) its xs := by
    refine (PySem.W.each_mem E1).mono fun u d ⟨⟨v, r1, r2⟩, hd⟩ => ?_
    have hp : D.pure d = true := by
      have : ∀ {l : List D}, D.pures l = true → ∀ x ∈ l, D.pure x = true := by
        intro l
        induction l with
        | nil => intro _ x hx; cases hx
        | cons y l ih =>
          intro hl x hx
          have hl' : (D.pure y && D.pures l) = true := hl
          rw [Bool.and_eq_true] at hl'
          rcases List.mem_cons.mp hx with rfl | hx
          · exact hl'.1
          · exact ih hl'.2 x hx
      exact this h2 d hd
    exact Dp.reads I d.py v u (Rep.dp hp r2) r1
  have hal : PySem.W.AllAlike (xs.map D.py) := by
    intro d hd d' hd'
    obtain ⟨b, hb, rfl⟩ := List.mem_map.mp hd
    obtain ⟨b', hb', rfl⟩ := List.mem_map.mp hd'
    exact List.all_eq_true.mp (List.all_eq_true.mp h3 b hb) b' hb'
  have hd0 : ∀ b, b ∈ xs → b.py.depth ≤ 100 := fun b hb => of_decide_eq_true (List.all_eq_true.mp h4 b hb)
  have hz : xs.length ≤ sizeLine := small_line h1
  have fin : ∀ out : List Value, out.length = xs.length → PySem.W.EachIs (ItemR X.K S μ H) out (xs.mergeSort (PySem.W.dataLe false D.py)) → EP X pins σ Q (.ref (s.heap.objs.size + 1)) { s with heap := sortedAll s.heap its (List.toArray out) } := fun out ol eo => by
    rw [← sortD_eq] at eo
    obtain ⟨ws', rw', rp⟩ := reps_each eo
    obtain ⟨ep, he'⟩ := PyProof.Rows.sortedAll_at s.heap its out.toArray
    exact ⟨.ref _, upd H (s.heap.objs.size + 1) (.lst ws'), I.laid (t' := s.toks) (fun _ _ => PyProof.Rows.sortedAll_old) (Nat.le_succ _) ⟨by rw [rw'.length, ol]; exact hz, out, ep, rw', he'⟩, rfl, k ws' rp _ (I.hok.fresh (Nat.le_succ _))⟩
  rw [Bool.or_eq_true, Bool.or_eq_true, Bool.and_eq_true] at h5
  rcases h5 with ⟨h5, h6⟩ | h5 | h5
  · have er' : PySem.W.EachIs (fun v d => ∃ as, PySem.Reads (PySem.W.sortingHeap (PySem.W.copyHeap s.heap its) (s.heap.objs.size + 1) its) v d.py as) its xs := er.mono fun _ _ ⟨as, q⟩ => ⟨as, PyProof.Rows.Reads.keeps (fun _ _ => PySem.W.sorting_copy_old) q⟩
    refine PySem.W.sorted_vals hL (sorts_tups0 (s := { s with heap := PySem.W.sortingHeap (PySem.W.copyHeap s.heap its) (s.heap.objs.size + 1) its }) (PySem.W.each_map (R := fun v d => ∃ as, PySem.Reads (PySem.W.sortingHeap (PySem.W.copyHeap s.heap its) (s.heap.objs.size + 1) its) v d as) D.py er') hal (fun d hd => ?_) ?_ (fun d hd => ?_)) (by rw [E1.length]; exact hz)
      (fin _ (by rw [PySem.W.sortVals_length false rfl]; exact E1.length) (PySem.W.sortVals_data false E1 er' hal))
    · obtain ⟨b, hb, rfl⟩ := List.mem_map.mp hd
      have q := List.all_eq_true.mp h6 b hb
      cases b with
      | tup l => exact ⟨_, rfl⟩
      | _ => cases q
    · cases xs with
      | nil => cases h5
      | cons b xs =>
        cases b with
        | tup l =>
          cases l with
          | nil => exact ⟨_, rfl⟩
          | cons _ _ => cases h5
        | _ => cases h5
    · obtain ⟨b, hb, rfl⟩ := List.mem_map.mp hd
      have := hd0 b hb
      show X.A.units + 1 + 1 + _ < cLine
      omega
  · refine PySem.W.sorted_data hL E1 er hal (.inr fun d hd => ?_) hz (fun b hb => ?_) fin
    · obtain ⟨b, hb, rfl⟩ := List.mem_map.mp hd
      have q := List.all_eq_true.mp h5 b hb
      cases b with
      | int i => exact ⟨by simp [D.py], fun xs => by simp [D.py]⟩
      | str i => exact ⟨by simp [D.py], fun xs => by simp [D.py]⟩
      | _ => cases q
    · have := hd0 b hb
      omega
  · refine PySem.W.sorted_data hL E1 er hal (.inl fun d hd => ?_) hz (fun b hb => ?_) fin
    · obtain ⟨b, hb, rfl⟩ := List.mem_map.mp hd
      have q := List.all_eq_true.mp h5 b hb
      cases b with
      | tup l =>
        cases l with
        | nil => cases q
        | cons x r => exact ⟨x.py, D.pys r, by simp [D.py, D.pys]⟩
      | _ => cases q
    · have := hd0 b hb
      omega
end
end Iv

set_option Elab.async false
set_option linter.all false
set_option maxRecDepth 100000
set_option maxHeartbeats 1000000
namespace Iv
open PySem PySem.Spec PyProof.Rows L2

section
variable {X : Cx} {pins : List (Addr × Obj)} {s : Shared} {σ : L2.St} {H : Hp} {S : Sto} {μ : Mu} {v w : V} {u1 u2 : Value} {Q : VK}

/-- slices -/
def rSlI (K : PySem.W.Frag) : V → Option Int → Option Int → Hp → VK → Prop := fun v lo hi H Q => ∃ S μ x z, Good K S μ H ∧ Seen K S μ H x v ∧ slD x lo hi = some z ∧ Cont K S μ H z Q
theorem sl_I : SlR X (rSlI X.K) := by
  intro pins s σ H v u vl vu lo hi sl Q I rx hs pl pu h
  obtain ⟨S, μ, x, z, g, hx, e, k⟩ := h
  unfold slD at e
  split at e
  · cases e
    obtain ⟨a, vs, rfl, qa, ra⟩ := hx
    exact sl_list pins s σ H _ u vl vu lo hi sl Q I rx hs pl pu ⟨a, vs, rfl, qa.l, cont_lst g k (ra.cut lo hi)⟩
  · rename_i xs
    cases e
    obtain ⟨a, vs, rfl, qa, ra⟩ := hx
    refine sl_tupA pins s σ H _ u vl vu lo hi sl Q I rx hs pl pu ⟨a, vs, rfl, qa, fun hw => ?_, fun _ => cont_tup g k (ra.cut lo hi)⟩
    have ew : cutV vs lo hi = vs := by
      unfold cutV
      rw [hw.1, hw.2, List.drop_zero, Nat.sub_zero, List.take_length]
    have rc := ra.cut lo hi
    rw [ew] at rc
    exact cont_here g k ⟨a, vs, rfl, qa, rc⟩
  · split at e
    · rename_i h
      cases e
      cases (show v = V.str _ from hx)
      exact sl_str pins s σ H _ u vl vu lo hi sl Q I rx hs pl pu ⟨_, rfl, small_line h, cont_here g k rfl⟩
    · cases e
  · cases e

def Seens (K : PySem.W.Frag) (S : Sto) (μ : Mu) (H : Hp) : List D → List V → Prop
  | [], vs => vs = []
  | d :: ds, vs => ∃ v r, vs = v :: r ∧ Seen K S μ H d v ∧ Seens K S μ H ds r
theorem seeAll_ok {K : PySem.W.Frag} (g : Good K S μ H) : ∀ {ds es : List D} {vs : List V}, Reps K S μ H ds vs → seeAll S ds = some es → Seens K S μ H es vs
  | [], _, _, h, e => by cases e; exact h
  | d :: ds, es, _, ⟨v, r, e1, h1, h2⟩, e => by
    unfold seeAll at e
    split at e
    · rename_i y ys e2 e3
      cases e
      exact ⟨v, r, e1, see_ok g h1 e2, seeAll_ok g h2 e3⟩
    · cases e
theorem reps_bls {K : PySem.W.Frag} : ∀ {ds : List D} {bs : List Bool} {vs : List V}, Reps K S μ H ds vs → bls? ds = some bs → vs = bs.map V.bl
  | [], _, _, h, e => by cases e; exact h
  | .bl b :: ds, bs, _, ⟨v, r, e1, h1, h2⟩, e => by
    simp only [bls?] at e
    cases q : bls? ds with
    | none => rw [q] at e; cases e
    | some cs =>
      rw [q] at e
      cases e
      subst e1
      rw [reps_bls h2 q]
      cases (show v = V.bl b from h1)
      rfl
  | .non :: ds, _, _, _, e => by cases e
  | .int _ :: ds, _, _, _, e => by cases e
  | .str _ :: ds, _, _, _, e => by cases e
  | .tup _ :: ds, _, _, _, e => by cases e
  | .lst _ :: ds, _, _, _, e => by cases e
  | .ref _ :: ds, _, _, _, e => by cases e
theorem reps_ints {K : PySem.W.Frag} : ∀ {ds : List D} {bs : List Int} {vs : List V}, Reps K S μ H ds vs → ints? ds = some bs → vs = bs.map V.int
  | [], _, _, h, e => by cases e; exact h
  | .int b :: ds, bs, _, ⟨v, r, e1, h1, h2⟩, e => by
    simp only [ints?] at e
    cases q : ints? ds with
    | none => rw [q] at e; cases e
    | some cs =>
      rw [q] at e
      cases e
      subst e1
      rw [reps_ints h2 q]
      cases (show v = V.int b from h1)
      rfl
  | .non :: ds, _, _, _, e => by cases e
  | .bl _ :: ds, _, _, _, e => by cases e
  | .str _ :: ds, _, _, _, e => by cases e
  | .tup _ :: ds, _, _, _, e => by cases e
  | .lst _ :: ds, _, _, _, e => by cases e
  | .ref _ :: ds, _, _, _, e => by cases e
theorem reps_strs {K : PySem.W.Frag} : ∀ {ds : List D} {bs : List Str} {vs : List V}, Reps K S μ H ds vs → strs? ds = some bs → vs = bs.map V.str
  | [], _, _, h, e => by cases e; exact h
  | .str b :: ds, bs, _, ⟨v, r, e1, h1, h2⟩, e => by
    simp only [strs?] at e
    cases q : strs? ds with
    | none => rw [q] at e; cases e
    | some cs =>
      rw [q] at e
      cases e
      subst e1
      rw [reps_strs h2 q]
      cases (show v = V.str b from h1)
      rfl
  | .non :: ds, _, _, _, e => by cases e
  | .bl _ :: ds, _, _, _, e => by cases e
  | .int _ :: ds, _, _, _, e => by cases e
  | .tup _ :: ds, _, _, _, e => by cases e
  | .lst _ :: ds, _, _, _, e => by cases e
  | .ref _ :: ds, _, _, _, e => by cases e

theorem max_fold : ∀ (ns : List Int) (n : Int), (ns.foldl (fun a b => if b > a then b else a) n ∈ n :: ns) ∧ ∀ y ∈ n :: ns, y ≤ ns.foldl (fun a b => if b > a then b else a) n
  | [], n => ⟨List.mem_cons_self .., fun y hy => by
    rcases List.mem_cons.mp hy with e | hy
    · exact Int.le_of_eq e
    · cases hy⟩
  | m :: ns, n => by
    obtain ⟨h1, h2⟩ := max_fold ns (if m > n then m else n)
    have k0 := h2 _ (List.mem_cons_self ..)
    rw [List.foldl_cons]
    refine ⟨?_, fun y hy => ?_⟩
    · rcases List.mem_cons.mp h1 with e | h
      · rw [e]
        by_cases hm : m > n
        · rw [if_pos hm]; exact List.mem_cons_of_mem _ (List.mem_cons_self ..)
        · rw [if_neg hm]; exact List.mem_cons_self ..
      · exact List.mem_cons_of_mem _ (List.mem_cons_of_mem _ h)
    · rcases List.mem_cons.mp hy with e | hy
      · subst e
        by_cases hm : m > y
        · rw [if_pos hm] at k0 ⊢; omega
        · rw [if_neg hm] at k0 ⊢; exact k0
      · rcases List.mem_cons.mp hy with e | hy
        · subst e
          by_cases hm : y > n
          · rw [if_pos hm] at k0 ⊢; exact k0
          · rw [if_neg hm] at k0 ⊢; omega
        · exact h2 y (List.mem_cons_of_mem _ hy)
def biV : BI → Value
  | .len => .builtin "len"
  | .int => .type "int"
  | .abs => .builtin "abs"
  | .tuple => .type "tuple"
  | .list => .type "list"
  | .all => .builtin "all"
  | .any => .builtin "any"
  | .sum => .builtin "sum"
  | .max2 => .builtin "max"
  | .str => .type "str"
  | .repr => .builtin "repr"
  | .sorted => .builtin "sorted"
  | .maxl => .builtin "max"
def rBi (K : PySem.W.Frag) (b : BI) : List V → Hp → VK → Prop := fun vs H Q => ∃ S μ ys z, Good K S μ H ∧ Seens K S μ H ys vs ∧ biD b ys = some z ∧ Cont K S μ H z Q
theorem seens1 {K : PySem.W.Frag} {d : D} {vs : List V} (h : Seens K S μ H [d] vs) : ∃ v, vs = [v] ∧ Seen K S μ H d v := by
  obtain ⟨v, r, e, h1, h2⟩ := h
  cases (show r = [] from h2)
  exact ⟨v, e, h1⟩
theorem seens2 {K : PySem.W.Frag} {d d' : D} {vs : List V} (h : Seens K S μ H [d, d'] vs) : ∃ v w, vs = [v, w] ∧ Seen K S μ H d v ∧ Seen K S μ H d' w := by
  obtain ⟨v, r, e, h1, h2⟩ := h
  obtain ⟨w, e2, h3⟩ := seens1 h2
  exact ⟨v, w, by rw [e, e2], h1, h3⟩
mutual
theorem noDict : ∀ {d : D}, d.py.hasDict = false
  | .non => by simp [D.py, PyData.hasDict]
  | .bl _ => by simp [D.py, PyData.hasDict]
  | .int _ => by simp [D.py, PyData.hasDict]
  | .str _ => by simp [D.py, PyData.hasDict]
  | .ref _ => by simp [D.py, PyData.hasDict]
  | .cl _ _ => by simp [D.py, PyData.hasDict]
  | .dct => by simp [D.py, PyData.hasDict]
  | .tup ds => by rw [D.py, PyData.hasDict]; exact noDicts
  | .lst ds => by rw [D.py, PyData.hasDict]; exact noDicts
theorem noDicts : ∀ {ds : List D}, PyData.hasDictAll (D.pys ds) = false
  | [] => by simp [D.pys, PyData.hasDictAll]
  | d :: ds => by rw [D.pys, PyData.hasDictAll, noDict, noDicts]; rfl
end
theorem repr_run {d : D} {us : List Value} (hg : X.A.guards = some []) (hu : X.A.units + 200 < cLine) (h : D.shows d = true) (I : Inv X pins σ H s) (r : Vals [v] us) (hv : Seen X.K S μ H d v) (k : Cont X.K S μ H (.str d.py.shown) Q) (g : Good X.K S μ H)
    (hd : ∃ a, v = .ref a := by first | exact ⟨_, hv.choose_spec.choose_spec.1⟩ | exact ⟨_, hv.choose_spec.choose_spec.1⟩) : wpAny (model X.prog X.w) X.A (call (.builtin "repr") us) (EP X pins σ Q) X.xe s := by
  obtain ⟨a, rfl⟩ := hd
  unfold D.shows at h
  rw [Bool.and_eq_true, Bool.and_eq_true, Bool.and_eq_true, Bool.and_eq_true, decide_eq_true_eq, decide_eq_true_eq] at h
  obtain ⟨⟨⟨⟨h1, h2⟩, h3⟩, h4⟩, h5⟩ := h
  obtain ⟨u, rfl, ru⟩ := r.one
  cases (show u = Value.ref a from ru)
  obtain ⟨as, d1⟩ := Dp.reads I d.py (.ref a) (.ref a) (hv.dp h1) rfl
  refine PySem.repr_of_reads' d1 h2 (fun z => by rw [noDict] at z; cases z) hg (by omega) (fun _ _ q => q) (fun h' u tk hk => ⟨.str _, H, I.kept (t' := tk) hk, ⟨_, rfl⟩, cont_here g k rfl⟩) ?_
  rw [sizeLine_eq]; omega
/-- list(text): its signs -/
theorem signs_reps {K : PySem.W.Frag} : ∀ cs : List Nat, Reps K S μ H (cs.map fun c => D.str ⟨#[c]⟩) (cs.map fun c => V.str ⟨#[c]⟩)
  | [] => rfl
  | _ :: cs => ⟨_, _, rfl, rfl, signs_reps cs⟩
theorem paired_ix {α β : Type} {F : α → β → Prop} : ∀ {xs : List α} {ys : List β}, xs.length = ys.length → (∀ (i : Nat) (x : α) (y : β), xs[i]? = some x → ys[i]? = some y → F x y) → Paired F xs ys
  | [], [], _, _ => .nil
  | [], _ :: _, h, _ => by cases h
  | _ :: _, [], h, _ => by cases h
  | x :: xs, y :: ys, h, k => .cons (k 0 x y rfl rfl) (paired_ix (by simpa using h) fun i a b h1 h2 => k (i + 1) a b (by simpa using h1) (by simpa using h2))
theorem signs_raw {z : Str} {t : Tok} (hc : X.calm = true) (h : small z.length = true) (I : Inv X pins σ H s) (q : ∀ p, H p = none → Q (.ref p) (upd H p (.lst (z.cps.toList.map fun c => V.str ⟨#[c]⟩)))) :
    wpAny (model X.prog X.w) X.A (call (.type "list") [.str z t]) (EP X pins σ Q) X.xe s := by
  have hz := small_line h
  refine PySem.call_list_str (I.ok.hd hc) z t (fun h' tk acc c hk ho hit => ?_) hz
  have rv : Vals (z.cps.toList.map fun c => V.str ⟨#[c]⟩) acc.toList := by
    refine paired_ix (by rw [List.length_map, Array.length_toList, Array.length_toList, hit.1]) fun i x y hx hy => ?_
    rw [Array.getElem?_toList] at hy
    obtain ⟨cc, u, h1, h2⟩ := hit.2 i y hy
    rw [List.getElem?_map, Array.getElem?_toList, h1] at hx
    cases hx
    exact ⟨u, h2⟩
  refine ⟨.ref s.heap.objs.size, _, I.laid (t' := tk) (o := .lst (z.cps.toList.map fun c => V.str ⟨#[c]⟩)) hk (Nat.le_refl _) ⟨by rw [List.length_map]; simpa [Str.length] using hz, acc.toList, c, rv, by simpa using ho⟩, rfl, q _ I.fresh⟩
theorem signs_run {z : Str} {t : Tok} (hc : X.calm = true) (h : small z.length = true) (I : Inv X pins σ H s) (g : Good X.K S μ H) (k : Cont X.K S μ H (.lst (z.cps.toList.map fun c => .str ⟨#[c]⟩)) Q) :
    wpAny (model X.prog X.w) X.A (call (.type "list") [.str z t]) (EP X pins σ Q) X.xe s := signs_raw hc h I (cont_lst g k (signs_reps _))
theorem strs_reps {K : PySem.W.Frag} : ∀ ss : List Str, Reps K S μ H (ss.map D.str) (ss.map V.str)
  | [] => rfl
  | x :: ss => ⟨.str x, ss.map V.str, rfl, rfl, strs_reps ss⟩
theorem sort_tup_run {a : Addr} {ss : List Str} {us : List Value} (hu : X.A.units + 200 < cLine) (h : ss.length ≤ 1000) (I : Inv X pins σ H s) (r : Vals [V.ref a] us) (qa : SqT X.K H a (ss.map V.str))
    (k : ∀ p, H p = none → Q (.ref p) (upd H p (.lst ((sortS ss).map V.str)))) : wpAny (model X.prog X.w) X.A (call (.builtin "sorted") us) (EP X pins σ Q) X.xe s := by
  obtain ⟨its, rv, ⟨o, ho, hc, n, hd⟩, _⟩ := I.tuple qa
  rw [Vals.ref1 r]
  refine sorted_tup (vs := its) (ys := ss) ⟨o, ho, hc, n, hd⟩ rv.strs h (by omega) fun out ho => ?_
  obtain ⟨ep, he'⟩ := PyProof.Rows.sortedAll_at s.heap its out.toArray
  have hlen : ((sortS ss).map V.str).length ≤ sizeLine := by rw [List.length_map, (sortS_is ss).length_eq, sizeLine_eq]; omega
  exact ⟨.ref _, upd H (s.heap.objs.size + 1) (.lst ((sortS ss).map V.str)), I.laid (t' := s.toks) (fun _ _ => PyProof.Rows.sortedAll_old) (Nat.le_succ _) ⟨hlen, out, ep, vals_of_strs ho, he'⟩, rfl, k _ (I.hok.fresh (Nat.le_succ _))⟩
theorem call_bi (hc : X.calm = true) (hg : X.A.guards = some []) (hu : X.A.units + 200 < cLine) (b : BI) : CallR X (biV b) (rBi X.K b) := by
  intro pins s σ H vs us Q I r h
  obtain ⟨S, μ, ys, z, g, hs, e, k⟩ := h
  unfold biD at e
  split at e
  · cases e
    obtain ⟨v, rfl, a, ws, rfl, qa, ra⟩ := seens1 hs
    exact call_len_seq pins s σ H _ us Q I r ⟨a, ws, rfl, .inl qa.l, cont_here g k (by rw [ra.length]; rfl)⟩
  · cases e
    obtain ⟨v, rfl, a, ws, rfl, qa, ra⟩ := seens1 hs
    exact call_len_seq pins s σ H _ us Q I r ⟨a, ws, rfl, .inr qa, cont_here g k (by rw [ra.length]; rfl)⟩
  · split at e
    · rename_i h
      cases e
      obtain ⟨v, rfl, hv⟩ := seens1 hs
      cases (show v = V.str _ from hv)
      exact call_len_str pins s σ H _ us Q I r ⟨_, rfl, small_line h, cont_here g k rfl⟩
    · cases e
  · cases e
    obtain ⟨v, rfl, hv⟩ := seens1 hs
    cases (show v = V.int _ from hv)
    exact call_int1 pins s σ H _ us Q I r (.inl ⟨_, rfl, cont_here g k rfl⟩)
  · cases e
    obtain ⟨v, rfl, hv⟩ := seens1 hs
    cases (show v = V.bl _ from hv)
    exact call_int1 pins s σ H _ us Q I r (.inr ⟨_, rfl, cont_here g k rfl⟩)
  · cases e
    obtain ⟨v, rfl, hv⟩ := seens1 hs
    cases (show v = V.int _ from hv)
    exact call_abs pins s σ H _ us Q I r ⟨_, rfl, cont_here g k rfl⟩
  · cases e
    obtain ⟨v, rfl, a, ws, rfl, qa, ra⟩ := seens1 hs
    exact call_tuple_of pins s σ H _ us Q I r ⟨a, ws, rfl, .inl ⟨qa.l, cont_tup g k ra⟩⟩
  · cases e
    obtain ⟨v, rfl, a, ws, rfl, qa, ra⟩ := seens1 hs
    exact call_tuple_of pins s σ H _ us Q I r ⟨a, ws, rfl, .inr ⟨qa, cont_here g k ⟨a, ws, rfl, qa, ra⟩⟩⟩
  · cases e
    obtain ⟨v, rfl, a, ws, rfl, qa, ra⟩ := seens1 hs
    exact call_list_of pins s σ H _ us Q I r ⟨a, ws, rfl, .inl qa.l, cont_lst g k ra⟩
  · cases e
    obtain ⟨v, rfl, a, ws, rfl, qa, ra⟩ := seens1 hs
    exact call_list_of pins s σ H _ us Q I r ⟨a, ws, rfl, .inr qa, cont_lst g k ra⟩
  · split at e
    · rename_i h
      cases e
      obtain ⟨v, rfl, hv⟩ := seens1 hs
      cases (show v = V.str _ from hv)
      obtain ⟨u, rfl, t, rfl⟩ := vals1 r
      exact signs_run hc h I g k
    · cases e
  · obtain ⟨bs, e1, rfl⟩ := Option.map_eq_some_iff.mp e
    obtain ⟨v, rfl, a, ws, rfl, qa, ra⟩ := seens1 hs
    have ew := reps_bls ra e1
    subst ew
    exact cr_all hc pins s σ H _ us Q I r ⟨a, bs, rfl, qa.l, cont_here g k rfl⟩
  · obtain ⟨bs, e1, rfl⟩ := Option.map_eq_some_iff.mp e
    obtain ⟨v, rfl, a, ws, rfl, qa, ra⟩ := seens1 hs
    have ew := reps_bls ra e1
    subst ew
    exact cr_any hc pins s σ H _ us Q I r ⟨a, bs, rfl, qa.l, cont_here g k rfl⟩
  · obtain ⟨bs, e1, rfl⟩ := Option.map_eq_some_iff.mp e
    obtain ⟨v, rfl, a, ws, rfl, qa, ra⟩ := seens1 hs
    have ew := reps_ints ra e1
    subst ew
    exact cr_sum hc pins s σ H _ us Q I r ⟨a, bs, rfl, qa.l, cont_here g k rfl⟩
  · obtain ⟨bs, e1, rfl⟩ := Option.map_eq_some_iff.mp e
    obtain ⟨v, rfl, a, ws, rfl, qa, ra⟩ := seens1 hs
    have ew := reps_ints ra e1
    subst ew
    obtain ⟨its, rv, ht, _⟩ := I.tuple qa
    rw [Vals.ref1 r]
    obtain ⟨xs, e⟩ := rv.ints.allInts.items
    have hn : numsOf (PySem.intItems xs).toList = bs := by rw [← e]; exact rv.ints.numsOf
    rw [PySem.nums_intItems] at hn
    have ht2 : s.heap.IsTuple a (PySem.intItems xs) := by rw [← e]; exact ht
    refine PySem.W.ktm_sumG (I.ok.hd hc) ht2 fun h' tk t' hk => ?_
    rw [preSum_eq, List.take_of_length_le (by simp), hn]
    exact ⟨.int _, H, I.kept hk, ⟨_, rfl⟩, k _ _ g (Evo.refl _ _ _) rfl⟩
  · cases e
    obtain ⟨v, w, rfl, hv, hw⟩ := seens2 hs
    cases (show v = V.int _ from hv)
    cases (show w = V.int _ from hw)
    exact call_max2 hc pins s σ H _ us Q I r ⟨_, _, rfl, cont_here g k rfl⟩
  · split at e
    · rename_i h
      cases e
      rw [decide_eq_true_eq] at h
      obtain ⟨v, rfl, hv⟩ := seens1 hs
      cases (show v = V.int _ from hv)
      exact call_str_int pins s σ H _ us Q I r ⟨_, rfl, by have := natAbs_log h (by decide); omega, cont_here g k rfl⟩
    · cases e
  · split at e
    · rename_i h
      cases e
      obtain ⟨v, rfl, hv⟩ := seens1 hs
      exact repr_run hg hu h I r hv k g
    · cases e
  · split at e
    · rename_i h
      cases e
      obtain ⟨v, rfl, hv⟩ := seens1 hs
      exact repr_run hg hu h I r hv k g
    · cases e
  · split at e
    · rename_i i0 h
      cases e
      obtain ⟨v, rfl, hv⟩ := seens1 hs
      cases (show v = V.int _ from hv)
      obtain ⟨u, rfl, t, rfl⟩ := vals1 r
      have k2 : Q (.str (D.int i0).py.shown) H := cont_here g k rfl
      rw [decide_eq_true_eq] at h
      have k3 : (D.int i0).py.shown = (toString i0 : Str) := by simp [D.py, PyData.shown]
      rw [k3] at k2
      exact PySem.P.repr_of_int (by have := natAbs_log h (by decide); omega) ⟨.str _, H, I.tok _, ⟨_, rfl⟩, k2⟩
    · cases e
  · split at e
    · rename_i n ns hn
      cases e
      obtain ⟨v, rfl, hv⟩ := seens1 hs
      obtain ⟨a, ws, rfl, qa, ra⟩ := hv
      have ew := reps_ints ra hn
      subst ew
      obtain ⟨m1, m2⟩ := max_fold ns n
      refine cr_max hc pins s σ H _ us Q I r ⟨a, n :: ns, rfl, qa.l, Nat.succ_pos _, fun m h1 h2 => ?_⟩
      have e2 : m = ns.foldl (fun a b => if b > a then b else a) n := Int.le_antisymm (m2 m h1) (h2 _ m1)
      rw [e2]
      exact cont_here g k rfl
    · cases e
  · rename_i b0
    cases e
    obtain ⟨v, rfl, hv⟩ := seens1 hs
    cases (show v = V.bl _ from hv)
    obtain ⟨u, rfl, ru⟩ := r.one
    cases (show u = Value.bool _ from ru)
    have k2 : Q (.str (D.bl b0).py.shown) H := cont_here g k rfl
    exact PySem.P.repr_of_bool ⟨.str _, H, I.tok _, ⟨_, rfl⟩, k2⟩
  · split at e
    · rename_i h
      cases e
      obtain ⟨v, rfl, hv⟩ := seens1 hs
      cases (show v = V.str _ from hv)
      obtain ⟨u, rfl, t, rfl⟩ := vals1 r
      have k2 := cont_here g k rfl
      exact PySem.P.repr_of_str ⟨.str _, H, I.tok _, ⟨_, rfl⟩, k2⟩ (small_line h)
    · cases e
  · split at e
    · rename_i h
      cases e
      obtain ⟨v, rfl, hv⟩ := seens1 hs
      obtain ⟨a, ws, rfl, qa, ra⟩ := hv
      exact sort_run hu h I r qa ra (fun ws' r' => cont_lst g k r')
    · cases e
  · split at e
    · rename_i ss hss
      split at e
      · rename_i h
        rw [decide_eq_true_eq] at h
        cases e
        obtain ⟨v, rfl, hv⟩ := seens1 hs
        obtain ⟨a, ws, rfl, qa, ra⟩ := hv
        have ew := reps_strs ra hss
        subst ew
        exact sort_tup_run hu h I r qa (fun p hp => cont_lst g k (strs_reps _) p hp)
      · cases e
    · cases e
  · cases e

def meId : ME → String
  | .append => "list.append"
  | .pop => "list.pop"
  | .popAt => "list.pop"
  | .extend => "list.extend"
  | .index => "list.index"
  | .join => "str.join"
  | .lower => "str.lower"
  | .isalpha => "str.isalpha"
  | .isalnum => "str.isalnum"
  | .split => "str.split"
/-- behind an operation that may change the store -/
abbrev ContS (K : PySem.W.Frag) (S : Sto) (μ : Mu) (H : Hp) (S' : Sto) (z : D) (Q : VK) : Prop := ∀ v' μ' H', Good K S' μ' H' → Evo S μ H S' μ' H' → Rep K S' μ' H' z v' → Q v' H'
def rMk (K : PySem.W.Frag) : List V → Hp → VK → Prop := fun vs H Q => ∃ S μ ys zs S' d, Good K S μ H ∧ Seens K S μ H ys vs ∧ biD .list ys = some (.lst zs) ∧ mkList true zs S = some (d, S') ∧ ContS K S μ H S' d Q
/-- list(x) that will change -/
theorem call_mk (hc : X.calm = true) : CallR X (.type "list") (rMk X.K) := by
  intro pins s σ H vs us Q I r h
  obtain ⟨S, μ, ys, zs, S', d, g, hs, e, em, k⟩ := h
  unfold mkList at em
  rw [if_pos rfl] at em
  cases em
  have key : ∀ vs', Reps X.K S μ H zs vs' → ∀ p, H p = none → Q (.ref p) (upd H p (.lst vs')) := fun vs' rz p hn => k _ _ _ (good_mk g hn rz) (evo_mk g hn) ⟨p, rfl, get_last g.len⟩
  match ys, hs, e with
  | [.lst xs], hs, e =>
    cases e
    obtain ⟨v, rfl, a, ws, rfl, qa, ra⟩ := seens1 hs
    exact call_list_of pins s σ H _ us Q I r ⟨a, ws, rfl, .inl qa.l, key _ ra⟩
  | [.tup xs], hs, e =>
    cases e
    obtain ⟨v, rfl, a, ws, rfl, qa, ra⟩ := seens1 hs
    exact call_list_of pins s σ H _ us Q I r ⟨a, ws, rfl, .inr qa, key _ ra⟩
  | [.str z], hs, e =>
    have e2 : (if small z.length = true then some (D.lst (z.cps.toList.map fun c => .str ⟨#[c]⟩)) else none) = some (D.lst zs) := e
    split at e2
    · rename_i h
      cases e2
      obtain ⟨v, rfl, hv⟩ := seens1 hs
      cases (show v = V.str _ from hv)
      obtain ⟨u, rfl, t, rfl⟩ := vals1 r
      exact signs_raw hc h I (key _ (signs_reps _))
    · cases e2
  | [.int _], hs, e => cases e
  | [.bl _], hs, e => cases e
  | [.non], hs, e => cases e
  | [.ref _], hs, e => cases e
  | [], hs, e => cases e
  | _ :: _ :: _, hs, e => simp [biD] at e
theorem pures_append : ∀ {xs ys : List D}, D.pures xs = true → D.pures ys = true → D.pures (xs ++ ys) = true
  | [], _, _, h => h
  | x :: xs, ys, h, h' => by
    have p : (D.pure x && D.pures xs) = true := h
    rw [Bool.and_eq_true] at p
    show (D.pure x && D.pures (xs ++ ys)) = true
    rw [Bool.and_eq_true]
    exact ⟨p.1, pures_append p.2 h'⟩
theorem pures_mem : ∀ {xs : List D}, D.pures xs = true ↔ ∀ x ∈ xs, D.pure x = true
  | [] => by simp [D.pures]
  | x :: xs => by
    have ih := pures_mem (xs := xs)
    show (D.pure x && D.pures xs) = true ↔ _
    rw [Bool.and_eq_true, ih]
    simp
theorem pures_sub {xs ys : List D} (h : D.pures xs = true) (k : ∀ y ∈ ys, y ∈ xs) : D.pures ys = true := pures_mem.mpr fun y hy => pures_mem.mp h y (k y hy)
theorem pures_set {xs : List D} {j : Nat} {x : D} (h : D.pures xs = true) (hx : D.pure x = true) : D.pures (xs.set j x) = true :=
  pures_mem.mpr fun y hy => by
    rcases List.mem_or_eq_of_mem_set hy with z | z
    · exact pures_mem.mp h y z
    · rw [z]; exact hx
def rMe (K : PySem.W.Frag) (m : ME) : V → List V → Hp → VK → Prop := fun v vs H Q => ∃ S μ o ys S' z, Good K S μ H ∧ Rep K S μ H o v ∧ Reps K S μ H ys vs ∧ meD m o ys S = some (z, S') ∧ ContS K S μ H S' z Q
theorem reps1 {K : PySem.W.Frag} {d : D} {vs : List V} (h : Reps K S μ H [d] vs) : ∃ v, vs = [v] ∧ Rep K S μ H d v := by
  obtain ⟨v, r, e, h1, h2⟩ := h
  cases (show r = [] from h2)
  exact ⟨v, e, h1⟩
theorem extend_run {l b : Addr} {xs zs : List V} (I : Inv X pins σ H s) (hH : H l = some (.lst xs)) (hB : SqP X.K H b zs) (hz : xs.length + zs.length ≤ sizeLine) (q : Q .non (upd H l (.lst (xs ++ zs)))) :
    wpAny (model X.prog X.w) X.A (call (.builtin "list.extend") [.ref l, .ref b]) (EP X pins σ Q) X.xe s := by
  obtain ⟨z, its, n, r, hl, e⟩ := I.lstM hH
  obtain ⟨z2, its2, n2, r2, hl2, e2⟩ := hB.plain I
  have hsz : its.toArray.size + its2.toArray.size ≤ sizeLine := by rw [List.size_toArray, List.size_toArray]; omega
  have hlong : ¬ (!its.toArray.isEmpty && Builtin.List.listTooLong (its.toArray.size + its2.toArray.size)) = true := by
    rw [notLongL hsz, Bool.and_false]
    exact Bool.false_ne_true
  refine call_meets F.slot_list_extend ⟨_, e, rfl⟩ F.entry_list_extend (F.args_list_extend_2 _ _)
    (AutoSeq1.list_extend_list_list_0 l its.toArray n b its2.toArray n2 hlong (by rw [List.size_toArray]; omega) (by omega)) ⟨e, e2, ?_⟩
  refine ⟨.non, _, I.lset (its' := its ++ its2) hH e (by simp) (r.append r2) ?_, rfl, q⟩
  rw [List.length_append]
  omega
theorem ixN_bounds {n : Nat} {i : Int} {j : Nat} (h : ixN n i = some j) (hn : n ≤ 100000) : -(2 ^ 63) ≤ i ∧ i < 2 ^ 63 ∧ seqIndex? i n = some j := by
  obtain ⟨h1, h2, h3, h4⟩ := ixN_seq h
  exact ⟨by omega, by omega, h1⟩
theorem me_run (m : ME) : MtR X (meId m) (rMe X.K m) := by
  intro pins s σ H v vs u us Q I rv r h
  obtain ⟨S, μ, o, ys, S', z, g, ho, hs, e, k⟩ := h
  unfold meD at e
  split at e
  · -- append
    split at e
    · rename_i x _ ys hS
      split at e
      · rename_i hc
        cases e
        rw [Bool.and_eq_true, Bool.not_eq_true'] at hc
        obtain ⟨a, rfl, ma⟩ := ho
        obtain ⟨b, oo, mb, hb, r0⟩ := g.at_ _ _ hS
        rw [ma] at mb; cases mb
        obtain ⟨ws, rfl, rr⟩ := Obs.ls hc.1 r0
        obtain ⟨w, rfl, hw⟩ := reps1 hs
        have hl := small_lt hc.2
        rw [rr.length] at hl
        have r2 : Reps X.K S μ H (ys ++ [x]) (ws ++ [w]) := rr.append ⟨w, [], rfl, hw, rfl⟩
        exact mt_append pins s σ H _ _ u us Q I rv r ⟨a, ws, w, rfl, rfl, hb, hl, k _ _ _ (good_put g hS ma r2) (evo_put g hS ma) rfl⟩
      · cases e
    · cases e
  · -- extend
    split at e
    · rename_i x _ ys hS
      split at e
      · rename_i hc
        cases e
        rw [Bool.and_eq_true, Bool.not_eq_true'] at hc
        obtain ⟨a, rfl, ma⟩ := ho
        obtain ⟨b, oo, mb, hb, r0⟩ := g.at_ _ _ hS
        rw [ma] at mb; cases mb
        obtain ⟨ws, rfl, rr⟩ := Obs.ls hc.1 r0
        obtain ⟨w, rfl, hw⟩ := reps1 hs
        obtain ⟨c, zs, rfl, qc, rc⟩ := hw.lsR
        have hl := small_line hc.2
        rw [rr.length, rc.length] at hl
        obtain ⟨u2, rfl, ru⟩ := r.one
        cases (show u2 = Value.ref c from ru)
        cases (show u = Value.ref a from rv)
        exact extend_run I hb qc hl (k _ _ _ (good_put g hS ma (rr.append rc)) (evo_put g hS ma) rfl)
      · cases e
    · cases e
  · -- pop
    split at e
    · rename_i ys hS
      split at e
      · cases e
      rename_i no
      split at e
      · rename_i y hy
        cases e
        obtain ⟨a, rfl, ma⟩ := ho
        obtain ⟨b, oo, mb, hb, r0⟩ := g.at_ _ _ hS
        rw [ma] at mb; cases mb
        obtain ⟨ws, rfl, rr⟩ := Obs.ls (by simpa using no) r0
        obtain ⟨w, hw, rw'⟩ := rr.get hy
        rw [rr.length] at hw
        cases (show vs = [] from hs)
        have ev := evo_put (o := .lst ws.dropLast) (ys := ys.dropLast) g hS ma
        exact mt_pop pins s σ H _ _ u us Q I rv r ⟨a, ws, w, rfl, rfl, hb, hw, k _ _ _ (good_put g hS ma rr.dropLast) ev (rw'.mono g ev.w)⟩
      · cases e
    · cases e
  · -- pop(i)
    split at e
    · rename_i ys hS
      split at e
      · rename_i j hj
        split at e
        · rename_i hc
          split at e
          · rename_i y hy
            cases e
            rw [Bool.and_eq_true, Bool.not_eq_true'] at hc
            obtain ⟨a, rfl, ma⟩ := ho
            obtain ⟨b, oo, mb, hb, r0⟩ := g.at_ _ _ hS
            rw [ma] at mb; cases mb
            obtain ⟨ws, rfl, rr⟩ := Obs.ls hc.1 r0
            obtain ⟨w, hw, rw'⟩ := rr.get hy
            obtain ⟨w1, rfl, hw1⟩ := reps1 hs
            cases (show w1 = V.int _ from hw1)
            obtain ⟨b1, b2, b3⟩ := ixN_bounds hj (small_le hc.2)
            rw [rr.length] at b3
            have ev := evo_put (o := .lst (ws.eraseIdx j)) (ys := ys.eraseIdx j) g hS ma
            exact mt_popAt pins s σ H _ _ u us Q I rv r ⟨a, ws, _, j, w, rfl, rfl, hb, b1, b2, b3, hw, k _ _ _ (good_put g hS ma (rr.eraseIdx j)) ev (rw'.mono g ev.w)⟩
          · cases e
        · cases e
      · cases e
    · cases e
  · -- index
    rename_i ys x
    split at e
    · rename_i hc
      rw [Bool.and_eq_true] at hc
      split at e
      · rename_i j hj
        cases e
        obtain ⟨a, ws, rfl, qa, ra⟩ := ho.lsR
        obtain ⟨w, rfl, hw⟩ := reps1 hs
        obtain ⟨hlt, h1, h2⟩ := List.findIdx?_eq_some_iff_getElem.mp hj
        obtain ⟨z, hz, rz⟩ := ra.get (List.getElem?_eq_getElem hlt)
        have fl : ∀ i (hi : i < ys.length), ys[i].flat = true := fun i hi => List.all_eq_true.mp hc.2 _ (List.getElem_mem hi)
        refine mt_index pins s σ H _ _ u us Q I rv r ⟨a, ws, w, j, z, rfl, rfl, qa.l, (flat_rep hc.1 hw).1, flats_rep hc.2 ra, hz, ?_, fun m z' hm hz' => ?_, k _ _ _ g (Evo.refl _ _ _) rfl⟩
        · rw [eqv_flat (fl j hlt) hc.1 rz hw]; exact h1
        · have hml : m < ys.length := by omega
          obtain ⟨z2, hz2, rz2⟩ := ra.get (List.getElem?_eq_getElem hml)
          rw [hz'] at hz2; cases hz2
          rw [eqv_flat (fl m hml) hc.1 rz2 hw]
          have := h2 m hm
          simpa using this
      · cases e
    · cases e
  · -- join
    split at e
    · rename_i ss hss
      split at e
      · rename_i hc
        cases e
        cases (show v = V.str _ from ho)
        obtain ⟨w, rfl, hw⟩ := reps1 hs
        obtain ⟨c, zs, rfl, qc, rc⟩ := hw.lsR
        have ew := reps_strs rc hss
        subst ew
        refine mt_join pins s σ H _ _ u us Q I rv r ⟨_, c, ss, rfl, rfl, .inl qc.l, by have := small_le hc; omega, k _ _ _ g (Evo.refl _ _ _) rfl⟩
      · cases e
    · cases e
  · -- split
    split at e
    · rename_i hc
      cases e
      rw [Bool.and_eq_true, Bool.not_eq_true'] at hc
      cases (show v = V.str _ from ho)
      obtain ⟨w, rfl, hw⟩ := reps1 hs
      cases (show w = V.str _ from hw)
      exact mt_split pins s σ H _ _ u us Q I rv r ⟨_, _, rfl, rfl, hc.2, by have := small_le hc.1; rw [sizeLine_eq]; omega, fun p hp => k _ _ _ (good_new g hp) (evo_new g hp) (rep_lst_new g hp (strs_reps _))⟩
    · cases e
  · -- lower
    split at e
    · rename_i hc
      cases e
      cases (show v = V.str _ from ho)
      cases (show vs = [] from hs)
      exact mt_lower pins s σ H _ _ u us Q I rv r ⟨_, rfl, rfl, by have := small_le hc; omega, k _ _ _ g (Evo.refl _ _ _) rfl⟩
    · cases e
  · cases e
    cases (show v = V.str _ from ho)
    cases (show vs = [] from hs)
    exact mt_isalpha pins s σ H _ _ u us Q I rv r ⟨_, rfl, rfl, trivial, k _ _ _ g (Evo.refl _ _ _) rfl⟩
  · cases e
    cases (show v = V.str _ from ho)
    cases (show vs = [] from hs)
    exact mt_isalnum pins s σ H _ _ u us Q I rv r ⟨_, rfl, rfl, trivial, k _ _ _ g (Evo.refl _ _ _) rfl⟩
  · cases e

def tyS : Ty → String
  | .int => "int"
  | .bool => "bool"
  | .str => "str"
  | .list => "list"
  | .tuple => "tuple"
  | .dict => "dict"
theorem kit_ty2 (K : PySem.W.Frag) (a b : Ty) : PySem.W.kitOne K (.type (tyS a)) (.type (tyS b)) = some (a == b || (a == .bool && b == .int)) := by
  cases a <;> cases b <;> kernel_rfl
theorem kit_ty3 (K : PySem.W.Frag) (b : Ty) : PySem.W.kitOne K (.type "NoneType") (.type (tyS b)) = some false := by
  cases b <;> kernel_rfl
theorem kit_isTy {K : PySem.W.Frag} {d : D} (t : Ty) : PySem.W.kitOne K (match tyOf d with | some u => .type (tyS u) | none => .type "NoneType") (.type (tyS t)) = some (isTy d t) := by
  unfold isTy
  cases tyOf d with
  | none => exact kit_ty3 K t
  | some u => exact kit_ty2 K u t
theorem kit_any {K : PySem.W.Frag} {d : D} : ∀ ts : List Ty, PySem.W.kitAny K (match tyOf d with | some u => .type (tyS u) | none => .type "NoneType") (ts.map fun t => Value.type (tyS t)) = some (ts.any (isTy d))
  | [] => rfl
  | t :: ts => by
    have e := kit_isTy (K := K) (d := d) t
    have ih := kit_any (K := K) (d := d) ts
    rw [List.map_cons, PySem.W.kitAny, e, List.any_cons]
    cases isTy d t with
    | true => rfl
    | false => exact ih
theorem ty_of {d : D} (nr : ∀ i, d ≠ .ref i) (h : Seen X.K S μ H d v) : TyX X.K H v (match tyOf d with | some u => .type (tyS u) | none => .type "NoneType") := by
  cases d with
  | non => cases (show v = V.non from h); exact .base .non
  | bl b => cases (show v = V.bl b from h); exact .base (.bl b)
  | int i => cases (show v = V.int i from h); exact .base (.int i)
  | str x => cases (show v = V.str x from h); exact .base (.str x)
  | tup ds =>
    obtain ⟨a, vs, rfl, q, _⟩ := h
    rcases q with (q | ⟨o, q⟩) | ⟨o, its, n, hk, hc, _⟩
    · exact .base (.tup q)
    · exact .fTuple q
    · exact .kTuple hk hc
  | lst ds =>
    obtain ⟨a, vs, rfl, q, _⟩ := h
    rcases q with (q | ⟨o, q⟩) | ⟨its, n, hk, _⟩
    · exact .base (.lst q)
    · exact .base (.frz q)
    · exact .kList hk rfl
  | ref i => exact absurd rfl (nr i)
  | cl _ _ => exact False.elim h
  | dct => obtain ⟨a, kvs, rfl, q⟩ := h; exact .base (.dK q)
theorem see_noref {S : Sto} {d d' : D} (e : see S d = some d') : ∀ i, d' ≠ .ref i := by
  intro i z
  subst z
  cases d with
  | ref j =>
    simp only [see] at e
    split at e
    · split at e <;> cases e
    · cases e
  | _ => cases e
end
end Iv

set_option Elab.async false
set_option linter.all false
set_option maxRecDepth 100000
set_option maxHeartbeats 1000000
namespace Iv
open PySem PySem.Spec PyProof.Rows L2

/-- an expression's reading -/
def tE (K : PySem.W.Frag) (F : CF) (e : E) : TE := fun σ H Q => ∃ (ρ : Env) (S : Sto) (μ : Mu) (d : D) (S' : Sto), Good K S μ H ∧ RelS K S μ H ρ σ ∧ ev F e ρ S = some (d, S') ∧ ContS K S μ H S' d Q
def tT (K : PySem.W.Frag) (F : CF) (e : E) : TT := fun σ H Q => ∃ (ρ : Env) (S : Sto) (μ : Mu) (b : Bool) (S' : Sto), Good K S μ H ∧ RelS K S μ H ρ σ ∧ ev F e ρ S = some (.bl b, S') ∧
  ∀ μ' H', Good K S' μ' H' → Evo S μ H S' μ' H' → Q b H'
def tA (K : PySem.W.Frag) (F : CF) (es : Es) : TA := fun σ H Q => ∃ (ρ : Env) (S : Sto) (μ : Mu) (xs : List D) (S' : Sto), Good K S μ H ∧ RelS K S μ H ρ σ ∧ evs F es ρ S = some (xs, S') ∧
  ∀ vs μ' H', Good K S' μ' H' → Evo S μ H S' μ' H' → Reps K S' μ' H' xs vs → Q vs H'

theorem PE.weak {X : Cx} {e : Expr} {t t' : TE} (h : PE X e t) (k : ∀ σ H Q, t' σ H Q → t σ H Q) : PE X e t' := ⟨fun pins s σ H Q I q => h.run pins s σ H Q I (k σ H Q q)⟩
theorem PT.weak {X : Cx} {e : Expr} {t t' : TT} (h : PT X e t) (k : ∀ σ H Q, t' σ H Q → t σ H Q) : PT X e t' := ⟨fun pins s σ H Q I q => h.run pins s σ H Q I (k σ H Q q)⟩

/-- what is known of the code that runs -/
structure Cok (X : Cx) : Prop where
  nd : X.N.Nodup
  calm : X.calm = true
  gd : X.A.guards = some []
  un : X.A.units + 200 < cLine

section
variable {X : Cx} {F : CF} {a b c e : Expr} {es : List Expr} {ia ib ic ie : E} {ies : Es} {pos : Pos}

theorem i_v {i : Nat} {x : Str} (hN : X.N[i]? = some x) (hv : Vis X.env.scope x) (hd : (x == ("__debug__" : Str)) = false := by decide) (hcd : (x == ("__classdict__" : Str)) = false := by decide) : PE X (.Name x pos) (tE X.K F (.v i)) :=
  PE.weak (pe_var hN hv hd hcd) fun σ H Q ⟨ρ, S, μ, d, S', g, r, q, k⟩ => by
    simp only [ev] at q
    split at q
    · rename_i d' hd'
      cases q
      obtain ⟨v, h1, h2⟩ := r.at_ i _ hd'
      exact ⟨v, h1, k v μ H g (Evo.refl _ _ _) h2⟩
    · cases q
theorem i_frz {i : Nat} {x : Str} (hN : X.N[i]? = some x) (hv : Vis X.env.scope x) (hd : (x == ("__debug__" : Str)) = false := by decide) (hcd : (x == ("__classdict__" : Str)) = false := by decide) : PE X (.Name x pos) (tE X.K F (.frz i)) :=
  PE.weak (pe_var hN hv hd hcd) fun σ H Q ⟨ρ, S, μ, d, S', g, r, q, k⟩ => by
    simp only [ev] at q
    split at q
    · rename_i j hj
      split at q
      · rename_i xs hS
        split at q
        · cases q
        rename_i no
        cases q
        obtain ⟨v, h1, h2⟩ := r.at_ i _ hj
        exact ⟨v, h1, k v μ H (good_drop g) evo_drop (rep_drop g hS (by simpa using no) h2)⟩
      · cases q
    · cases q
/-- behind a deep look -/
abbrev DeepOk (K : PySem.W.Frag) (f : D → Sto → Option (D × Sto)) : Prop := ∀ (d d' : D) (S S' : Sto) (μ : Mu) (H : Hp) (v : V), f d S = some (d', S') → Good K S μ H → Rep K S μ H d v → Good K S' μ H ∧ Evo S μ H S' μ H ∧ Rep K S' μ H d' v
theorem mapS_ok {K : PySem.W.Frag} {f : D → Sto → Option (D × Sto)} (hf : DeepOk K f) : ∀ (xs ys : List D) (S S' : Sto) (μ : Mu) (H : Hp) (vs : List V), mapS f xs S = some (ys, S') → Good K S μ H → Reps K S μ H xs vs → Good K S' μ H ∧ Evo S μ H S' μ H ∧ Reps K S' μ H ys vs
  | [], ys, S, S', μ, H, vs, e, g, r => by
    unfold mapS at e
    cases e
    exact ⟨g, Evo.refl _ _ _, r⟩
  | x :: xs, ys, S, S', μ, H, vs, e, g, r => by
    obtain ⟨v, ws, rfl, r1, r2⟩ := r
    unfold mapS at e
    split at e
    · cases e
    · rename_i y S1 e1
      split at e
      · cases e
      · rename_i zs S2 e2
        cases e
        obtain ⟨g1, v1, q1⟩ := hf x y S S1 μ H v e1 g r1
        obtain ⟨g2, v2, q2⟩ := mapS_ok hf xs zs S1 S' μ H ws e2 g1 (r2.mono g v1.w)
        exact ⟨g2, v1.trans v2, v, ws, rfl, q1.mono g1 v2.w, q2⟩
theorem deep_ok {K : PySem.W.Frag} : ∀ n : Nat, DeepOk K (deep n)
  | 0 => fun d d' S S' μ H v e g r => by simp [deep] at e
  | n + 1 => fun d d' S S' μ H v e g r => by
    cases d with
    | ref j =>
      unfold deep at e
      split at e
      · rename_i xs hS
        split at e
        · cases e
        · rename_i no
          split at e
          · rename_i ys S1 e1
            cases e
            have no' : isObj xs = false := by simpa using no
            obtain ⟨a, vs, rfl, q, rr⟩ := rep_drop g hS no' r
            obtain ⟨g1, v1, r1⟩ := mapS_ok (deep_ok n) xs ys _ S' μ H vs e1 (good_drop g) rr
            refine ⟨g1, (evo_drop (H := H)).trans v1, a, vs, rfl, ?_, r1⟩
            exact q.elim (fun z => .inl (rdL v1.w z.1 z.2)) .inr
          · cases e
      · cases e
    | lst xs =>
      unfold deep at e
      split at e
      · rename_i ys S1 e1
        cases e
        obtain ⟨a, vs, rfl, q, rr⟩ := r
        obtain ⟨g1, v1, r1⟩ := mapS_ok (deep_ok n) xs ys _ S' μ H vs e1 g rr
        exact ⟨g1, v1, a, vs, rfl, q.elim (fun z => .inl (rdL v1.w z.1 z.2)) .inr, r1⟩
      · cases e
    | tup xs =>
      unfold deep at e
      split at e
      · rename_i ys S1 e1
        cases e
        obtain ⟨a, vs, rfl, q, rr⟩ := r
        obtain ⟨g1, v1, r1⟩ := mapS_ok (deep_ok n) xs ys _ S' μ H vs e1 g rr
        exact ⟨g1, v1, a, vs, rfl, sqT_mono g v1.w q, r1⟩
      · cases e
    | non => unfold deep at e; cases e; exact ⟨g, Evo.refl _ _ _, r⟩
    | bl b => unfold deep at e; cases e; exact ⟨g, Evo.refl _ _ _, r⟩
    | int i => unfold deep at e; cases e; exact ⟨g, Evo.refl _ _ _, r⟩
    | str x => unfold deep at e; cases e; exact ⟨g, Evo.refl _ _ _, r⟩
    | cl x ns => unfold deep at e; cases e; exact ⟨g, Evo.refl _ _ _, r⟩
    | dct => unfold deep at e; cases e; exact ⟨g, Evo.refl _ _ _, r⟩
theorem i_frzD {i : Nat} {x : Str} (hN : X.N[i]? = some x) (hv : Vis X.env.scope x) (hd : (x == ("__debug__" : Str)) = false := by decide) (hcd : (x == ("__classdict__" : Str)) = false := by decide) : PE X (.Name x pos) (tE X.K F (.frzD i)) :=
  PE.weak (pe_var hN hv hd hcd) fun σ H Q ⟨ρ, S, μ, d, S', g, r, q, k⟩ => by
    simp only [ev] at q
    split at q
    · rename_i d0 hj
      obtain ⟨v, h1, h2⟩ := r.at_ i _ hj
      obtain ⟨g1, v1, r1⟩ := deep_ok 1000 d0 d S S' μ H v q g h2
      exact ⟨v, h1, k v μ H g1 v1 r1⟩
    · cases q
theorem i_c {d : D} {v : V} (h : PE X e (tC v)) (r : ∀ S μ H, Rep X.K S μ H d v) : PE X e (tE X.K F (.c d)) :=
  PE.weak h fun σ H Q ⟨ρ, S, μ, d', S', g, _, q, k⟩ => by
    simp only [ev] at q
    cases q
    exact k v μ H g (Evo.refl _ _ _) (r _ _ _)
theorem i_int {i : Int} {j : Nat} : PE X (.Constant (.int i) j pos) (tE X.K F (.c (.int i))) := i_c pe_int fun _ _ _ => rfl
theorem i_bl {b : Bool} {j : Nat} : PE X (.Constant (.bool b) j pos) (tE X.K F (.c (.bl b))) := i_c pe_bl fun _ _ _ => rfl
theorem i_non {j : Nat} : PE X (.Constant .none j pos) (tE X.K F (.c .non)) := i_c pe_non fun _ _ _ => rfl
theorem i_str {x : Str} {j : Nat} : PE X (.Constant (.str x) j pos) (tE X.K F (.c (.str x))) := i_c pe_str fun _ _ _ => rfl
/-- an expression that is never reached -/
theorem i_bad {e : Expr} : PE X e (tE X.K F (.neg (.c .non))) := ⟨fun pins s σ H Q I ⟨ρ, S, μ, d, S', g, _, q, _⟩ => by
  simp only [ev] at q
  cases q⟩
/-- a constant of the module -/
structure GlobOk (K : PySem.W.Frag) (mg : Str → Option Value) (x : Str) (d : D) : Prop where
  ex : ∃ u v, mg x = some u ∧ RelV v u ∧ ∀ S μ H, Rep K S μ H d v
theorem i_g {x : Str} {d : D} (hg : Gl X x) (G : GlobOk X.K X.mg x d) (hd : (x == ("__debug__" : Str)) = false := by decide) : PE X (.Name x pos) (tE X.K F (.g x d)) := by
  obtain ⟨u, v, h1, h2, h3⟩ := G.ex
  exact PE.weak (pe_glob hg h1 h2 hd) fun σ H Q ⟨ρ, S, μ, d', S', g, _, q, k⟩ => by
    simp only [ev] at q
    cases q
    exact k v μ H g (Evo.refl _ _ _) (h3 _ _ _)

def rOp (K : PySem.W.Frag) (o : Operator) : R2 := fun v w H Q => ∃ S μ x y z, Good K S μ H ∧ Seen K S μ H x v ∧ Seen K S μ H y w ∧ opD o x y = some z ∧ Cont K S μ H z Q
theorem op_I (o : Operator) : OpR X (binaryOp o) (rOp X.K o) := by
  intro pins s σ H v w u1 u2 Q I r1 r2 h
  obtain ⟨S, μ, x, y, z, g, hx, hy, e, k⟩ := h
  exact opD_run e I g hx hy r1 r2 k
/-- two parts, one behind the other -/
theorem two {K : PySem.W.Frag} {σ : L2.St} {H : Hp} {ρ : Env} {S S1 S2 : Sto} {μ : Mu} {x y : D} {R : V → V → Hp → Prop} (g : Good K S μ H) (r : RelS K S μ H ρ σ) (ea : ev F ia ρ S = some (x, S1)) (eb : ev F ib ρ S1 = some (y, S2))
    (k : ∀ v w μ2 H2, Good K S2 μ2 H2 → Evo S μ H S2 μ2 H2 → Rep K S2 μ2 H2 x v → Rep K S2 μ2 H2 y w → R v w H2) : tE K F ia σ H fun v H1 => tE K F ib σ H1 fun w H2 => R v w H2 :=
  ⟨ρ, S, μ, x, S1, g, r, ea, fun v μ1 H1 g1 e1 rv => ⟨ρ, S1, μ1, y, S2, g1, r.mono g e1.w, eb, fun w μ2 H2 g2 e2 rw => k v w μ2 H2 g2 (e1.trans e2) (rv.mono g1 e2.w) rw⟩⟩
theorem i_op {o : Operator} (ha : PE X a (tE X.K F ia)) (hb : PE X b (tE X.K F ib)) : PE X (.BinOp a o b pos) (tE X.K F (.op o ia ib)) :=
  PE.weak (pe_op (op_I o) ha hb) fun σ H Q ⟨ρ, S, μ, d, S', g, r, q, k⟩ => by
    simp only [ev] at q
    split at q
    · cases q
    · rename_i x S1 ea
      split at q
      · cases q
      · rename_i y S2 eb
        split at q
        · rename_i x' y' sx sy
          split at q
          · rename_i z ez
            cases q
            exact two g r ea eb fun v w μ2 H2 g2 e2 rx ry => ⟨_, μ2, x', y', _, g2, see_ok g2 rx sx, see_ok g2 ry sy, ez, fun v' H' g3 e3 rz => k v' μ2 H' g3 (e2.trans e3) rz⟩
          · cases q
        · cases q
theorem i_neg (ha : PE X a (tE X.K F ia)) : PE X (.UnaryOp .USub a pos) (tE X.K F (.neg ia)) :=
  PE.weak (pe_un un_neg ha) fun σ H Q ⟨ρ, S, μ, d, S', g, r, q, k⟩ => by
    simp only [ev] at q
    split at q
    · rename_i i S1 ea
      cases q
      exact ⟨ρ, S, μ, _, _, g, r, ea, fun v μ1 H1 g1 e1 rv => ⟨i, rv, k _ _ _ g1 e1 rfl⟩⟩
    · cases q
def rCmp (K : PySem.W.Frag) (o : CmpOp) : R2 := fun v w H Q => ∃ S μ x y b, Good K S μ H ∧ Seen K S μ H x v ∧ Seen K S μ H y w ∧ cmpD o x y = some b ∧ Q (.bl b) H
theorem cmp_I (ok : Cok X) (o : CmpOp) : OpR X (compareOp o) (rCmp X.K o) := by
  intro pins s σ H v w u1 u2 Q I r1 r2 h
  obtain ⟨S, μ, x, y, z, g, hx, hy, e, q⟩ := h
  exact cmpD_run (by have := ok.un; omega) e I hx hy r1 r2 q
theorem cmp_read {o : CmpOp} {σ : L2.St} {H : Hp} {Q : VK} : tE X.K F (.cmp o ia ib) σ H Q → tOp (rCmp X.K o) (tE X.K F ia) (tE X.K F ib) σ H Q := fun ⟨ρ, S, μ, d, S', g, r, q, k⟩ => by
  simp only [ev] at q
  split at q
  · cases q
  · rename_i x S1 ea
    split at q
    · cases q
    · rename_i y S2 eb
      split at q
      · rename_i x' y' sx sy
        split at q
        · rename_i z ez
          cases q
          exact two g r ea eb fun v w μ2 H2 g2 e2 rx ry => ⟨_, μ2, x', y', _, g2, see_ok g2 rx sx, see_ok g2 ry sy, ez, k _ _ _ g2 e2 rfl⟩
        · cases q
      · cases q
theorem i_cmp {o : CmpOp} (ok : Cok X) (ha : PE X a (tE X.K F ia)) (hb : PE X b (tE X.K F ib)) (hm : behindInMarks o b = false := by first | exact nobehind _ (by decide) (by decide) | rfl) : PE X (.Compare a [o] [b] pos) (tE X.K F (.cmp o ia ib)) :=
  PE.weak (pe_cmpR (cmp_I ok o) ha hb hm) fun σ H Q h => cmp_read h
theorem tT_tE {K : PySem.W.Frag} {σ : L2.St} {H : Hp} {Q : Bool → Hp → Prop} (h : tT K F ia σ H Q) : tE K F ia σ H fun x H' => ∃ k, x = .bl k ∧ Q k H' := by
  obtain ⟨ρ, S, μ, b, S', g, r, q, k⟩ := h
  exact ⟨ρ, S, μ, _, _, g, r, q, fun v μ1 H1 g1 e1 rv => ⟨b, rv, k _ _ g1 e1⟩⟩
theorem t_cmp {o : CmpOp} (ok : Cok X) (ha : PE X a (tE X.K F ia)) (hb : PE X b (tE X.K F ib)) (hm : behindInMarks o b = false := by first | exact nobehind _ (by decide) (by decide) | rfl) : PT X (.Compare a [o] [b] pos) (tT X.K F (.cmp o ia ib)) :=
  PT.weak (pt_cmpR (cmp_I ok o) ha hb hm) fun σ H Q h => cmp_read (tT_tE h)
/-- an expression as a test -/
theorem t_e (ha : PE X a (tE X.K F ia)) (he : ∀ whole, isTrue a X.env whole = (do let v ← whole; standAt a.pos; holding [v] (truthy v)) := by intro _; rfl) : PT X a (tT X.K F ia) :=
  PT.weak (pt_val ha he) fun σ H Q h => tT_tE h
theorem chain_read {o p : CmpOp} {σ : L2.St} {H : Hp} {Q : VK} : tE X.K F (.chain o p ia ib ic) σ H Q → tChain (rCmp X.K o) (rCmp X.K p) (tE X.K F ia) (tE X.K F ib) (tE X.K F ic) σ H Q := fun ⟨ρ, S, μ, d, S', g, r, q, k⟩ => by
  simp only [ev] at q
  split at q
  · cases q
  · rename_i x S1 ea
    split at q
    · cases q
    · rename_i y S2 eb
      split at q
      · rename_i x' y' sx sy
        split at q
        · cases q
        · rename_i ez
          cases q
          exact two g r ea eb fun v w μ2 H2 g2 e2 rx ry => ⟨_, μ2, x', y', _, g2, see_ok g2 rx sx, see_ok g2 ry sy, ez, false, rfl, by show (if false = true then _ else _); rw [if_neg Bool.false_ne_true]; exact k _ _ _ g2 e2 rfl⟩
        · rename_i ez
          split at q
          · cases q
          · rename_i z S3 ec
            split at q
            · rename_i y2 z2 sy2 sz2
              split at q
              · rename_i r2 er
                cases q
                refine two g r ea eb fun v w μ2 H2 g2 e2 rx ry => ⟨_, μ2, x', y', _, g2, see_ok g2 rx sx, see_ok g2 ry sy, ez, true, rfl, ?_⟩
                rw [if_pos rfl]
                exact ⟨ρ, S2, μ2, z, _, g2, r.mono g e2.w, ec, fun v3 μ3 H3 g3 e3 rz => ⟨_, μ3, y2, z2, _, g3, see_ok g3 (ry.mono g2 e3.w) sy2, see_ok g3 rz sz2, er, k _ _ _ g3 (e2.trans e3) rfl⟩⟩
              · cases q
            · cases q
      · cases q
theorem i_chain {o p : CmpOp} (ok : Cok X) (ha : PE X a (tE X.K F ia)) (hb : PE X b (tE X.K F ib)) (hc : PE X c (tE X.K F ic)) (hm : lastMarks [o, p] [b, c] = false := by with_unfolding_all rfl) : PE X (.Compare a [o, p] [b, c] pos) (tE X.K F (.chain o p ia ib ic)) :=
  PE.weak (pe_chain (cmp_I ok o) (cmp_I ok p) ha hb hc hm) fun σ H Q h => chain_read h
theorem t_chain {o p : CmpOp} (ok : Cok X) (ha : PE X a (tE X.K F ia)) (hb : PE X b (tE X.K F ib)) (hc : PE X c (tE X.K F ic)) (hm : lastMarks [o, p] [b, c] = false := by with_unfolding_all rfl) : PT X (.Compare a [o, p] [b, c] pos) (tT X.K F (.chain o p ia ib ic)) :=
  PT.weak (pt_chain (cmp_I ok o) (cmp_I ok p) ha hb hc hm) fun σ H Q h => chain_read (tT_tE h)

theorem i_one {o : BoolOp} (ha : PE X a (tE X.K F ia)) : PE X (.BoolOp o [a] pos) (tE X.K F ia) := pe_one ha
theorem i_and (ha : PE X a (tE X.K F ia)) (hb : PE X (.BoolOp .And (b :: es) pos) (tE X.K F ib)) : PE X (.BoolOp .And (a :: b :: es) pos) (tE X.K F (.and ia ib)) :=
  PE.weak (pe_and ha hb) fun σ H Q ⟨ρ, S, μ, d, S', g, r, q, k⟩ => by
    simp only [ev] at q
    split at q
    · rename_i S1 ea
      exact ⟨ρ, S, μ, _, _, g, r, ea, fun v μ1 H1 g1 e1 rv => ⟨true, rv, by show (if true = true then _ else _); rw [if_pos rfl]; exact ⟨ρ, S1, μ1, _, _, g1, r.mono g e1.w, q, fun w μ2 H2 g2 e2 rw => k _ _ _ g2 (e1.trans e2) rw⟩⟩⟩
    · rename_i S1 ea
      cases q
      exact ⟨ρ, S, μ, _, _, g, r, ea, fun v μ1 H1 g1 e1 rv => ⟨false, rv, by show (if false = true then _ else _); rw [if_neg Bool.false_ne_true]; exact k _ _ _ g1 e1 rfl⟩⟩
    · cases q
theorem i_or (ha : PE X a (tE X.K F ia)) (hb : PE X (.BoolOp .Or (b :: es) pos) (tE X.K F ib)) : PE X (.BoolOp .Or (a :: b :: es) pos) (tE X.K F (.or ia ib)) :=
  PE.weak (pe_or ha hb) fun σ H Q ⟨ρ, S, μ, d, S', g, r, q, k⟩ => by
    simp only [ev] at q
    split at q
    · rename_i S1 ea
      cases q
      exact ⟨ρ, S, μ, _, _, g, r, ea, fun v μ1 H1 g1 e1 rv => ⟨true, rv, by show (if true = true then _ else _); rw [if_pos rfl]; exact k _ _ _ g1 e1 rfl⟩⟩
    · rename_i S1 ea
      exact ⟨ρ, S, μ, _, _, g, r, ea, fun v μ1 H1 g1 e1 rv => ⟨false, rv, by show (if false = true then _ else _); rw [if_neg Bool.false_ne_true]; exact ⟨ρ, S1, μ1, _, _, g1, r.mono g e1.w, q, fun w μ2 H2 g2 e2 rw => k _ _ _ g2 (e1.trans e2) rw⟩⟩⟩
    · cases q
theorem i_not (ha : PE X a (tE X.K F ia)) : PE X (.UnaryOp .Not a pos) (tE X.K F (.not ia)) :=
  PE.weak (pe_not ha) fun σ H Q ⟨ρ, S, μ, d, S', g, r, q, k⟩ => by
    simp only [ev] at q
    split at q
    · rename_i b S1 ea
      cases q
      exact ⟨ρ, S, μ, _, _, g, r, ea, fun v μ1 H1 g1 e1 rv => ⟨b, rv, k _ _ _ g1 e1 rfl⟩⟩
    · cases q
theorem i_ite (hc : PT X c (tT X.K F ic)) (ha : PE X a (tE X.K F ia)) (hb : PE X b (tE X.K F ib)) : PE X (.IfExp c a b pos) (tE X.K F (.ite ic ia ib)) :=
  PE.weak (pe_ifExp hc ha hb) fun σ H Q ⟨ρ, S, μ, d, S', g, r, q, k⟩ => by
    simp only [ev] at q
    split at q
    · rename_i S1 ea
      exact ⟨ρ, S, μ, true, _, g, r, ea, fun μ1 H1 g1 e1 => by show (if true = true then _ else _); rw [if_pos rfl]; exact ⟨ρ, S1, μ1, _, _, g1, r.mono g e1.w, q, fun w μ2 H2 g2 e2 rw => k _ _ _ g2 (e1.trans e2) rw⟩⟩
    · rename_i S1 ea
      exact ⟨ρ, S, μ, false, _, g, r, ea, fun μ1 H1 g1 e1 => by show (if false = true then _ else _); rw [if_neg Bool.false_ne_true]; exact ⟨ρ, S1, μ1, _, _, g1, r.mono g e1.w, q, fun w μ2 H2 g2 e2 rw => k _ _ _ g2 (e1.trans e2) rw⟩⟩
    · cases q
abbrev PWI (X : Cx) (F : CF) (e : Expr) (ie : E) : Prop := PW X e (tT X.K F ie)
theorem PW.weak {X : Cx} {e : Expr} {t t' : TT} (h : PW X e t) (k : ∀ σ H Q, t' σ H Q → t σ H Q) : PW X e t' := ⟨fun wh pins s σ H Q I q => h.run wh pins s σ H Q I (k σ H Q q)⟩
theorem tT_eta {K : PySem.W.Frag} {σ : L2.St} {H : Hp} {Q : Bool → Hp → Prop} (h : tT K F ia σ H Q) (k : ∀ b H', Q b H' → Q (if b = true then true else false) H') : True := trivial
theorem w_and1 (ha : PT X a (tT X.K F ia)) : PW X (.BoolOp .And [a] pos) (tT X.K F ia) := pw_and1 ha
theorem w_or1 (ha : PT X a (tT X.K F ia)) : PW X (.BoolOp .Or [a] pos) (tT X.K F ia) := pw_or1 ha
theorem w_and (ha : PT X a (tT X.K F ia)) (hb : PW X (.BoolOp .And (b :: es) pos) (tT X.K F ib)) : PW X (.BoolOp .And (a :: b :: es) pos) (tT X.K F (.and ia ib)) :=
  PW.weak (pw_and ha hb) fun σ H Q ⟨ρ, S, μ, d, S', g, r, q, k⟩ => by
    simp only [ev] at q
    split at q
    · rename_i S1 ea
      exact ⟨ρ, S, μ, true, _, g, r, ea, fun μ1 H1 g1 e1 => by show (if true = true then _ else _); rw [if_pos rfl]; exact ⟨ρ, S1, μ1, _, _, g1, r.mono g e1.w, q, fun μ2 H2 g2 e2 => k _ _ g2 (e1.trans e2)⟩⟩
    · rename_i S1 ea
      cases q
      exact ⟨ρ, S, μ, false, _, g, r, ea, fun μ1 H1 g1 e1 => by show (if false = true then _ else _); rw [if_neg Bool.false_ne_true]; exact k _ _ g1 e1⟩
    · cases q
theorem w_or (ha : PT X a (tT X.K F ia)) (hb : PW X (.BoolOp .Or (b :: es) pos) (tT X.K F ib)) : PW X (.BoolOp .Or (a :: b :: es) pos) (tT X.K F (.or ia ib)) :=
  PW.weak (pw_or ha hb) fun σ H Q ⟨ρ, S, μ, d, S', g, r, q, k⟩ => by
    simp only [ev] at q
    split at q
    · rename_i S1 ea
      cases q
      exact ⟨ρ, S, μ, true, _, g, r, ea, fun μ1 H1 g1 e1 => by show (if true = true then _ else _); rw [if_pos rfl]; exact k _ _ g1 e1⟩
    · rename_i S1 ea
      exact ⟨ρ, S, μ, false, _, g, r, ea, fun μ1 H1 g1 e1 => by show (if false = true then _ else _); rw [if_neg Bool.false_ne_true]; exact ⟨ρ, S1, μ1, _, _, g1, r.mono g e1.w, q, fun μ2 H2 g2 e2 => k _ _ g2 (e1.trans e2)⟩⟩
    · cases q
theorem t_w (h : PW X a (tT X.K F ia)) : PT X a (tT X.K F ia) := h.pt
theorem t_not (ha : PT X a (tT X.K F ia)) : PT X (.UnaryOp .Not a pos) (tT X.K F (.not ia)) :=
  PT.weak (pt_not ha) fun σ H Q ⟨ρ, S, μ, d, S', g, r, q, k⟩ => by
    simp only [ev] at q
    split at q
    · rename_i b S1 ea
      cases q
      exact ⟨ρ, S, μ, b, _, g, r, ea, fun μ1 H1 g1 e1 => k _ _ g1 e1⟩
    · cases q

theorem PA.weak {X : Cx} {e : List Expr} {t t' : TA} (h : PA X e t) (k : ∀ σ H Q, t' σ H Q → t σ H Q) : PA X e t' := ⟨fun p pins s σ H Q I q => h.run p pins s σ H Q I (k σ H Q q)⟩
theorem a_nil : PA X [] (tA X.K F .nil) := PA.weak pa_nil fun σ H Q ⟨ρ, S, μ, d, S', g, r, q, k⟩ => by
  simp only [evs] at q
  cases q
  exact k [] μ H g (Evo.refl _ _ _) rfl
theorem a_cons (ha : PE X a (tE X.K F ia)) (hr : PA X es (tA X.K F ies)) (hs : starEach (a :: es) X.env = (false, eval a X.env) :: starEach es X.env := by rfl) : PA X (a :: es) (tA X.K F (.cons ia ies)) :=
  PA.weak (pa_cons ha hr hs) fun σ H Q ⟨ρ, S, μ, d, S', g, r, q, k⟩ => by
    simp only [evs] at q
    split at q
    · cases q
    · rename_i x S1 ea
      split at q
      · cases q
      · rename_i xs S2 eb
        cases q
        exact ⟨ρ, S, μ, x, S1, g, r, ea, fun v μ1 H1 g1 e1 rv => ⟨ρ, S1, μ1, xs, _, g1, r.mono g e1.w, eb, fun vs μ2 H2 g2 e2 rw => k _ _ _ g2 (e1.trans e2) ⟨v, vs, rfl, rv.mono g1 e2.w, rw⟩⟩⟩
theorem star_lst {pins : List (Addr × Obj)} {σ : L2.St} {H : Hp} {s : Shared} {p : Addr} {xs : List V} {E : Value → Shared → Prop} {Q : List Value → Shared → Prop} (I : Inv X pins σ H s) (h : SqP X.K H p xs) (hQ : ∀ us s', Inv X pins σ H s' → Vals xs us → Q us s') :
    PySem.W.StarOf (model X.prog X.w) X.A E (.ref p) Q s := by
  obtain ⟨z, its, n, r, hl, ho⟩ := h.plain I
  have hT : s.TypeIs (.ref p) "list" := ⟨_, ho, rfl⟩
  have q : wpAny (model X.prog X.w) X.A (collect (.ref p)) Q E s := by
    refine wpAny_collect_seq p (.inl rfl) ho rfl rfl (fun h' hk => ?_) (by rw [List.size_toArray]; omega)
    have e : its.toArray.toList = its := by simp
    rw [e]
    exact hQ its _ (I.kept (t' := s.toks) hk) r
  unfold PySem.W.StarOf notIterableAtAll
  exact wpAny_bind (wpAny_specialOf hT PySem.F.slot_list_iter.lookup (wpAny_pure ⟨rfl, q⟩))
theorem a_star {p : Pos} (ha : PE X a (tE X.K F ia)) (hr : PA X es (tA X.K F ies)) : PA X (.Starred a p :: es) (tA X.K F (.star ia ies)) := by
  refine ⟨fun pos pins s σ H Q I ⟨ρ, S, μ, d, S', g, r, q, k⟩ => ?_⟩
  simp only [evs] at q
  split at q
  · cases q
  · rename_i x S1 ea
    have more : ∀ (ys xs : List D) (S2 : Sto), evs F ies ρ S1 = some (xs, S2) → (∀ vs μ' H', Good X.K S2 μ' H' → Evo S μ H S2 μ' H' → Reps X.K S2 μ' H' (ys ++ xs) vs → Q vs H') →
        ∀ (s2 : Shared) (us : List Value) (ws : List V) (μ1 : Mu) (H1 : Hp), Inv X pins σ H1 s2 → Good X.K S1 μ1 H1 → Evo S μ H S1 μ1 H1 → Reps X.K S1 μ1 H1 ys ws → Vals ws us →
        wpAny (model X.prog X.w) X.A (spliced (backTo pos (starEach es X.env))) (fun vs s3 => AP X pins σ Q (us ++ vs) s3) X.xe s2 := fun ys xs S2 eb k s2 us ws μ1 H1 I1 g1 e1 rys rus => by
      refine thn (hr.run pos pins s2 σ H1 (fun vs H2 => ∃ μ2, Good X.K S2 μ2 H2 ∧ Evo S μ H S2 μ2 H2 ∧ Reps X.K S2 μ2 H2 (ys ++ xs) (ws ++ vs)) I1 ⟨ρ, S1, μ1, xs, S2, g1, r.mono g e1.w, eb, fun vs μ2 H2 g2 e2 rx => ⟨μ2, g2, e1.trans e2, (rys.mono g1 e2.w).append rx⟩⟩) ?_
      rintro zs s3 ⟨vs, H2, I2, rz, μ2, g2, e2, rr⟩
      exact ⟨ws ++ vs, H2, I2, rus.append rz, k _ μ2 H2 g2 e2 rr⟩
    show wpAny _ _ (spliced ((true, (do let v ← eval a X.env; standAt pos; pure v)) :: backTo pos (starEach es X.env))) _ _ _
    refine PySem.W.ks_spliced (pos := pos) (thn (ha.run pins s σ H (fun v H1 => ∃ μ1, Good X.K S1 μ1 H1 ∧ Evo S μ H S1 μ1 H1 ∧ Rep X.K S1 μ1 H1 x v) I ⟨ρ, S, μ, x, S1, g, r, ea, fun v μ1 H1 g1 e1 rv => ⟨μ1, g1, e1, rv⟩⟩) ?_)
    rintro u s1 ⟨v, H1, I1, ru, μ1, g1, e1, rv⟩
    split at q
    · rename_i ys sy
      split at q
      · cases q
      · rename_i xs S2 eb
        cases q
        obtain ⟨p', ws, rfl, qa, ra⟩ := see_ok g1 rv sy
        cases (show u = Value.ref p' from ru)
        exact star_lst I1 qa fun us s2 I2 rus => more ys xs _ eb k s2 us ws μ1 H1 I2 g1 e1 ra rus
    · rename_i ys sy
      split at q
      · cases q
      · rename_i xs S2 eb
        cases q
        obtain ⟨p', ws, rfl, qa, ra⟩ := see_ok g1 rv sy
        cases (show u = Value.ref p' from ru)
        exact star_tup I1 qa fun us s2 I2 rus => more ys xs _ eb k s2 us ws μ1 H1 I2 g1 e1 ra rus
    · cases q
theorem i_tup {x1 : Nat} (h : PA X es (tA X.K F ies)) : PE X (.Tuple es x1 pos) (tE X.K F (.tup ies)) :=
  PE.weak (pe_tup h) fun σ H Q ⟨ρ, S, μ, d, S', g, r, q, k⟩ => by
    simp only [ev] at q
    split at q
    · rename_i xs S1 ea
      split at q
      · rename_i hz
        cases q
        exact ⟨ρ, S, μ, xs, _, g, r, ea, fun vs μ1 H1 g1 e1 rv => ⟨by rw [← rv.length]; exact small_line hz, fun p hp => k _ _ _ (good_new g1 hp) (e1.trans (evo_new g1 hp)) (rep_tup_new g1 hp rv)⟩⟩
      · cases q
    · cases q
theorem i_lst (h : PA X es (tA X.K F ies)) : PE X (.List es pos) (tE X.K F (.lst ies)) :=
  PE.weak (pe_lst h) fun σ H Q ⟨ρ, S, μ, d, S', g, r, q, k⟩ => by
    simp only [ev] at q
    split at q
    · rename_i xs S1 ea
      split at q
      · rename_i hz
        cases q
        exact ⟨ρ, S, μ, xs, _, g, r, ea, fun vs μ1 H1 g1 e1 rv => ⟨by rw [← rv.length]; exact small_line hz, fun p hp => k _ _ _ (good_new g1 hp) (e1.trans (evo_new g1 hp)) (rep_lst_new g1 hp rv)⟩⟩
      · cases q
    · cases q
theorem i_new (h : PA X es (tA X.K F ies)) : PE X (.List es pos) (tE X.K F (.new ies)) :=
  PE.weak (pe_lst h) fun σ H Q ⟨ρ, S, μ, d, S', g, r, q, k⟩ => by
    simp only [ev] at q
    split at q
    · rename_i xs S1 ea
      split at q
      · rename_i hz
        unfold mkList at q
        rw [if_pos rfl] at q
        cases q
        exact ⟨ρ, S, μ, xs, _, g, r, ea, fun vs μ1 H1 g1 e1 rv => ⟨by rw [← rv.length]; exact small_line hz, fun p hn => k _ _ _ (good_mk g1 hn rv) (e1.trans (evo_mk g1 hn)) ⟨p, rfl, get_last g1.len⟩⟩⟩
      · cases q
    · cases q

theorem zip_look {K : PySem.W.Frag} {S : Sto} {μ : Mu} {H : Hp} {f : Str} : ∀ (ns : List Str) (fs : List D) (vs : List V) (d : D), Reps K S μ H fs vs → (ns.zip fs).lookup f = some d → ∃ v, (ns.zip vs).lookup f = some v ∧ Rep K S μ H d v
  | [], fs, vs, d, _, h => by simp at h
  | _ :: _, [], vs, d, _, h => by simp at h
  | n :: ns, c :: fs, vs, d, ⟨v, r, e, h1, h2⟩, h => by
    subst e
    simp only [List.zip_cons_cons, List.lookup] at h ⊢
    cases q : f == n with
    | true =>
      rw [q] at h
      cases h
      exact ⟨v, rfl, h1⟩
    | false =>
      rw [q] at h
      exact zip_look ns fs r d h2 h
theorem look_none {α : Type} {f : Str} : ∀ (ns : List Str) (vs : List α), ns.contains f = false → (ns.zip vs).lookup f = none
  | [], _, _ => by simp
  | _ :: _, [], _ => by simp
  | n :: ns, v :: vs, h => by
    simp only [List.contains_cons, Bool.or_eq_false_iff] at h
    simp only [List.zip_cons_cons, List.lookup, h.1]
    exact look_none ns vs h.2
/-- an object's entry -/
theorem Good.ob {K : PySem.W.Frag} {S : Sto} {μ : Mu} {H : Hp} (g : Good K S μ H) {i : Nat} {x : Str} {ns : List Str} {fs : List D} {v : V} (h : S[i]? = some (some (.cl x ns :: fs))) (r : Rep K S μ H (.ref i) v) :
    ∃ a dx vs, v = .ref a ∧ μ.ps[i]? = some a ∧ H a = some (.ins (He.ga K x) dx (ns.zip vs)) ∧ ns.length = fs.length ∧ Reps K S μ H fs vs := by
  obtain ⟨a, e1, m⟩ := r
  obtain ⟨b, o, m', hb, q⟩ := g.at_ i _ h
  rw [m] at m'; cases m'
  obtain ⟨dx, vs, rfl, hl, rr⟩ := q
  exact ⟨a, dx, vs, e1, m, hb, hl, rr⟩
theorem i_fld {x f : Str} (hc : Cls X.K (He.ga X.K x)) (hn : NoAttr X.K (He.ga X.K x) f) (ha : PE X a (tE X.K F ia)) (hb : attributeBase a f X.env (eval a X.env) = eval a X.env := by rfl) : PE X (.Attribute a f pos) (tE X.K F (.fld x ia f)) :=
  PE.weak (pe_fld ha hb) fun σ H Q ⟨ρ, S, μ, d, S', g, r, q, k⟩ => by
    simp only [ev] at q
    split at q
    · rename_i i S1 ea
      split at q
      · rename_i xs hS
        split at q
        · rename_i d' hd
          cases q
          refine ⟨ρ, S, μ, .ref i, _, g, r, ea, fun v μ1 H1 g1 e1 rv => ?_⟩
          unfold fldD at hd
          split at hd
          · rename_i y ns fs
            split at hd
            · rename_i hy
              subst hy
              obtain ⟨b, dx, vs, rfl, m, hb', hl, rr⟩ := g1.ob hS rv
              obtain ⟨w, hw, rw'⟩ := zip_look ns fs vs _ rr hd
              exact ⟨b, _, dx, _, w, rfl, hb', hc, hn, hw, k _ _ _ g1 e1 rw'⟩
            · cases hd
          · cases hd
        · cases q
      · cases q
    · cases q
/-- x.bit_length() -/
theorem i_bits {apos : Pos} (ha : PE X a (tE X.K F ia)) (hbase : attributeBase a "bit_length" X.env (eval a X.env) = eval a X.env := by rfl) (hline : (apos.endLine == pos.line) = true := by rfl) :
    PE X (.Call (.Attribute a "bit_length" apos) [] [] pos) (tE X.K F (.bits ia)) :=
  PE.weak (L2.pe_bits ha hbase hline) fun σ H Q ⟨ρ, S, μ, d, S', g, r, q, k⟩ => by
    simp only [ev] at q
    split at q
    · rename_i i S1 ea
      cases q
      exact ⟨ρ, S, μ, .int i, _, g, r, ea, fun v μ1 H1 g1 e1 rv => ⟨i, rv, k _ _ _ g1 e1 rfl⟩⟩
    · cases q
theorem stp_map {α β : Type} {xs : List α} {ys : List β} (hl : xs.length = ys.length) (k : Nat) {R : List α → List β → Prop} (h : ∀ is : List Nat, R (is.filterMap (xs[·]?)) (is.filterMap (ys[·]?))) : R (stpD k xs) (stpD k ys) := by
  unfold stpD
  rw [hl]
  exact h _
theorem Reps.pick {K : PySem.W.Frag} {S : Sto} {μ : Mu} {H : Hp} {ds : List D} {vs : List V} (r : Reps K S μ H ds vs) : ∀ is : List Nat, Reps K S μ H (is.filterMap (ds[·]?)) (is.filterMap (vs[·]?))
  | [] => rfl
  | i :: is => by
    have ih := Reps.pick r is
    have hl := r.length
    cases e : ds[i]? with
    | none =>
      have e2 : vs[i]? = none := by
        rw [List.getElem?_eq_none_iff] at e ⊢
        omega
      rw [List.filterMap_cons, e, List.filterMap_cons, e2]
      exact ih
    | some d =>
      obtain ⟨v, e2, rv⟩ := r.get e
      rw [List.filterMap_cons, e, List.filterMap_cons, e2]
      exact ⟨v, _, rfl, rv, ih⟩
theorem vals_pick {vs : List V} {us : List Value} (r : Vals vs us) : ∀ is : List Nat, Vals (is.filterMap (vs[·]?)) (is.filterMap (us[·]?))
  | [] => .nil
  | i :: is => by
    have ih := vals_pick r is
    have hl := r.length
    by_cases hi : i < vs.length
    · have e : vs[i]? = some vs[i] := List.getElem?_eq_getElem hi
      obtain ⟨u, e2, ru⟩ := r.get (i := i) e
      rw [List.filterMap_cons, e, List.filterMap_cons, e2]
      exact .cons ru ih
    · have e : vs[i]? = none := List.getElem?_eq_none (by omega)
      have e2 : us[i]? = none := List.getElem?_eq_none (by omega)
      rw [List.filterMap_cons, e, List.filterMap_cons, e2]
      exact ih
theorem pick_eq (its : List Value) (k : Nat) : PySem.slicePick its.toArray none none (some (k : Int)) = (stpD k its).toArray := by
  unfold PySem.slicePick stpD
  rw [List.size_toArray]
  simp
def tStp (K : PySem.W.Frag) (n : Nat) (te : TE) : TE := fun σ H Q => te σ H fun x H1 => ∃ a xs, x = .ref a ∧ SqL K H1 a xs ∧ ∀ p, H1 p = none → Q (.ref p) (upd H1 p (.lst (stpD n xs)))
theorem stp_len {α : Type} (k : Nat) (xs : List α) (us : List Value) (h : xs.length = us.length) : (stpD k xs).length ≤ us.length := by
  have e : (stpD k us).length ≤ us.length := by
    have z := PySem.slicePick_size_le us.toArray none none (some (k : Int))
    rw [pick_eq, List.size_toArray, List.size_toArray] at z
    exact z
  have e2 : (stpD k xs).length = (stpD k us).length := by
    refine stp_map (R := fun a b => a.length = b.length) h k fun is => ?_
    induction is with
    | nil => rfl
    | cons i is ih =>
      by_cases hi : i < xs.length
      · rw [List.filterMap_cons, List.getElem?_eq_getElem hi, List.filterMap_cons, List.getElem?_eq_getElem (h ▸ hi), List.length_cons, List.length_cons, ih]
      · rw [List.filterMap_cons, List.getElem?_eq_none (by omega), List.filterMap_cons, List.getElem?_eq_none (by omega)]
        exact ih
  omega
theorem pe_stp {X : Cx} {e : Expr} {te : TE} {n : Nat} {k : Nat} {p1 p3 pos : Pos} (hn : 0 < n) (he : PE X e te) : PE X (.Subscript e (.Slice none none (some (.Constant (.int (n : Int)) k p1)) p3) pos) (tStp X.K n te) := by
  refine ⟨fun pins s σ H Q I h => ?_⟩
  refine Subscript_ (thn (he.run pins s σ H _ I h) fun v s1 ⟨x, H1, I1, r1, q1⟩ => ?_)
  obtain ⟨a, xs, ex, hx, q⟩ := q1
  subst ex
  cases r1
  have hst : PO X (some (.Constant (.int (n : Int)) k p1)) (tPart (tC (.int (n : Int)))) := po_some pe_int
  refine wpAny_Slice (thn (po_none.run pins s1 σ H1 (fun o H2 => o = none ∧ H2 = H1) I1 ⟨rfl, rfl⟩) fun vl s2 ⟨l, H2, I2, pl, el, e2⟩ => ?_)
  subst el e2
  refine thn (po_none.run pins s2 σ H2 (fun o H3 => o = none ∧ H3 = H2) I2 ⟨rfl, rfl⟩) fun vu s3 ⟨u, H3, I3, pu, eu, e3⟩ => ?_
  subst eu e3
  refine thn (hst.run pins s3 σ H3 (fun o H4 => o = some (n : Int) ∧ H4 = H3) I3 ⟨n, rfl, rfl, rfl⟩) fun vs s4 ⟨o, H4, I4, ps, eo, e4⟩ => ?_
  subst eo e4
  have I5 : Inv X pins σ H4 { s4 with heap := s4.heap.push { cls := .type "slice", data := .fields #[vl, vu, vs] } } := I4.kept (t' := s4.toks) fun b ob q => Heap.get?_push_of_some _ q
  obtain ⟨its, r, ht, hz⟩ := I5.list hx
  have hlen := r.length
  show wpAny (model X.prog X.w) X.A (subscriptTail e (.Slice none none (some (.Constant (.int (n : Int)) k p1)) p3) (.ref a) (.ref s4.heap.objs.size)) (EP X pins σ Q) X.xe { s4 with heap := s4.heap.push { cls := .type "slice", data := .fields #[vl, vu, vs] } }
  refine tail_any (ops := [.ref a, .ref s4.heap.objs.size]) ht.isList.typeIs (PySem.slot_list_getitem.lookup) ?_ (by with_unfolding_all rfl)
  refine wpAny_getItem_list_slice ht.isList (Heap.IsSliceOf.new _ vl vu vs) pl pu ps (by intro z; injection z with z; omega) ?_ (by rw [List.size_toArray]; omega)
  rw [pick_eq]
  refine ⟨.ref _, _, I5.laid (t' := s4.toks) (o := .lst (stpD n xs)) (fun b ob q => Heap.get?_push_of_some _ q) (Nat.le_refl _) ?_, rfl, q _ (I5.hok.fresh (Nat.le_refl _))⟩
  have hz2 := stp_len n xs its hlen
  exact ⟨by omega, _, 0, stp_map (R := fun a b => Vals a b) hlen n fun is => vals_pick r is, Heap.get?_push_size _ rfl⟩
theorem i_stp {n : Nat} {k : Nat} {p1 p3 : Pos} (ha : PE X a (tE X.K F ia)) : PE X (.Subscript a (.Slice none none (some (.Constant (.int (n : Int)) k p1)) p3) pos) (tE X.K F (.stp ia n)) := by
  by_cases hn : 0 < n
  · exact PE.weak (pe_stp hn ha) fun σ H Q ⟨ρ, S, μ, d, S', g, r, q, k⟩ => by
      simp only [ev] at q
      split at q
      · cases q
      · rename_i x S1 ea
        split at q
        · rename_i xs sx
          split at q
          · cases q
            exact ⟨ρ, S, μ, x, S', g, r, ea, fun v μ1 H1 g1 e1 rv => by
              obtain ⟨a, vs, rfl, qa, ra⟩ := see_ok g1 rv sx
              refine ⟨a, vs, rfl, qa.l, fun p hp => ?_⟩
              have r2 : Reps X.K S' μ1 H1 (stpD n xs) (stpD n vs) := stp_map (R := fun a b => Reps X.K S' μ1 H1 a b) ra.length n fun is => Reps.pick ra is
              exact k _ _ _ (good_new g1 hp) (e1.trans (evo_new g1 hp)) (rep_lst_new g1 hp r2)⟩
          · cases q
        · cases q
  · refine ⟨fun pins s σ H Q I ⟨ρ, S, μ, d, S', g, r, q, k⟩ => ?_⟩
    simp only [ev, decide_eq_false hn, Bool.false_and, Bool.false_eq_true, if_false] at q
    split at q
    · cases q
    · split at q <;> cases q
theorem rep_dct_new {K : PySem.W.Frag} {S : Sto} {μ : Mu} {H : Hp} {p : Addr} {kvs : List (Key × V)} : Rep K S μ (upd H p (.dK kvs)) .dct (.ref p) := ⟨p, kvs, rfl, upd_same⟩
theorem i_dct0 : PE X (.Dict [] [] pos) (tE X.K F (.dct [])) :=
  PE.weak pe_dnewK fun σ H Q ⟨ρ, S, μ, d, S', g, r, q, k⟩ => by
    simp only [ev] at q
    cases q
    exact fun p hp => k _ _ _ (good_new g hp) (evo_new g hp) rep_dct_new
theorem i_dct1 {x y : Str} {j1 j2 : Nat} {p1 p2 : Pos} : PE X (.Dict [some (.Constant (.str x) j1 p1)] [.Constant (.str y) j2 p2] pos) (tE X.K F (.dct [(x, y)])) :=
  PE.weak (pe_disp (pps_cons pe_str pe_str pps_nil) rfl rfl (by simp) (Nat.le_of_ble_eq_true rfl)) fun σ H Q ⟨ρ, S, μ, d, S', g, r, q, k⟩ => by
    simp only [ev] at q
    cases q
    refine fun p hp => ⟨upd_same, [(.inr x, .str y)], rfl, Nat.le_of_ble_eq_true rfl, ?_⟩
    rw [upd_upd]
    exact k _ _ _ (good_new g hp) (evo_new g hp) rep_dct_new
def rIxI (K : PySem.W.Frag) : R2 := fun v w H Q => ∃ S μ x i z, Good K S μ H ∧ Seen K S μ H x v ∧ Rep K S μ H i w ∧ ixD x i = some z ∧ Cont K S μ H z Q
theorem ix_I : IxR X (rIxI X.K) := by
  intro value slice pins s σ H v w u1 u2 Q I r1 r2 h hs
  obtain ⟨S, μ, x, i, z, g, hx, hi, e, k⟩ := h
  exact ixD_run e I g hx hi r1 r2 k hs
theorem i_ix (ha : PE X a (tE X.K F ia)) (hb : PE X b (tE X.K F ib)) (hs : PlainIx b := by exact fun _ _ => rfl) : PE X (.Subscript a b pos) (tE X.K F (.ix ia ib)) :=
  PE.weak (pe_ix ix_I ha hb hs) fun σ H Q ⟨ρ, S, μ, d, S', g, r, q, k⟩ => by
    simp only [ev] at q
    split at q
    · cases q
    · rename_i x S1 ea
      split at q
      · cases q
      · rename_i y S2 eb
        split at q
        · cases q
        · rename_i x' sx
          split at q
          · rename_i z ez
            cases q
            exact two g r ea eb fun v w μ2 H2 g2 e2 rx ry => ⟨_, μ2, x', y, _, g2, see_ok g2 rx sx, ry, ez, fun v' H' g3 e3 rz => k v' μ2 H' g3 (e2.trans e3) rz⟩
          · cases q
abbrev POI (X : Cx) (F : CF) (lo : Option Expr) (il : E) : Prop := (lo = none ∧ il = .c .non) ∨ (∃ l, lo = some l ∧ PE X l (tE X.K F il))
def tO (K : PySem.W.Frag) (F : CF) (il : E) : TO := fun σ H Q => ∃ (ρ : Env) (S : Sto) (μ : Mu) (d : D) (o : Option Int) (S' : Sto), Good K S μ H ∧ RelS K S μ H ρ σ ∧ ev F il ρ S = some (d, S') ∧ part? d = some o ∧ ((isNonE il || isIntD d) = true) ∧ ∀ μ' H', Good K S' μ' H' → Evo S μ H S' μ' H' → Q o H'
theorem PO.weak {X : Cx} {e : Option Expr} {t t' : TO} (h : PO X e t) (k : ∀ σ H Q, t' σ H Q → t σ H Q) : PO X e t' := ⟨fun pins s σ H Q I q => h.run pins s σ H Q I (k σ H Q q)⟩
theorem o_none : PO X none (tO X.K F (.c .non)) := PO.weak po_none fun σ H Q ⟨ρ, S, μ, d, o, S', g, r, q, p, _, k⟩ => by
  simp only [ev] at q
  cases q
  cases p
  exact k μ H g (Evo.refl _ _ _)
theorem o_some (ha : PE X a (tE X.K F ia)) (hn : isNonE ia = false := by rfl) : PO X (some a) (tO X.K F ia) := PO.weak (po_some ha) fun σ H Q ⟨ρ, S, μ, d, o, S', g, r, q, p, c, k⟩ => by
  rw [hn, Bool.false_or] at c
  cases d with
  | int i =>
    cases p
    exact ⟨ρ, S, μ, _, _, g, r, q, fun v μ1 H1 g1 e1 rv => ⟨i, rv, k _ _ g1 e1⟩⟩
  | _ => cases c
theorem i_sl {lo hi : Option Expr} {il ih : E} {p2 : Pos} (ha : PE X a (tE X.K F ia)) (hl : PO X lo (tO X.K F il)) (hh : PO X hi (tO X.K F ih)) : PE X (.Subscript a (.Slice lo hi none p2) pos) (tE X.K F (.sl ia il ih)) :=
  PE.weak (pe_slice sl_I ha hl hh) fun σ H Q ⟨ρ, S, μ, d, S', g, r, q, k⟩ => by
    simp only [ev] at q
    split at q
    · cases q
    · rename_i x S1 ea
      split at q
      · cases q
      · rename_i l S2 el
        split at q
        · cases q
        · rename_i h S3 eh
          split at q
          · rename_i x' l' h' sx pl ph
            split at q
            · rename_i hk
              split at q
              · rename_i z ez
                cases q
                rw [Bool.and_eq_true] at hk
                obtain ⟨k1, k2⟩ := hk
                exact ⟨ρ, S, μ, x, S1, g, r, ea, fun v μ1 H1 g1 e1 rv => ⟨ρ, S1, μ1, l, l', S2, g1, r.mono g e1.w, el, pl, k1, fun μ2 H2 g2 e2 =>
                  ⟨ρ, S2, μ2, h, h', _, g2, r.mono g (e1.trans e2).w, eh, ph, k2, fun μ3 H3 g3 e3 => ⟨_, μ3, x', _, g3, see_ok g3 (rv.mono g1 (e2.trans e3).w) sx, ez, fun v' H' g4 e4 rz => k v' μ3 H' g4 ((e1.trans (e2.trans e3)).trans e4) rz⟩⟩⟩⟩
              · cases q
            · cases q
          · cases q
end
end Iv

set_option Elab.async false
set_option linter.all false
set_option maxRecDepth 100000
set_option maxHeartbeats 1000000
namespace Iv
open PySem PySem.Spec PyProof.Rows L2

/-- a def's promise, where no repr is under way -/
abbrev SpI := List V → Hp → VK → Prop
structure FnI (P : Program) (w : World) (K : PySem.W.Frag) (mg : Str → Option Value) (base : Heap) (k : Nat) (f : Addr) (fd : FuncData) (ps : List Str) (sp : SpI) : Prop where
  len : ∀ vs H Q, sp vs H Q → vs.length = ps.length
  run : ∀ (A : Around) (outer : List PySem.Env) (s : Shared) (H : Hp) (args : Args) (us : List Value) (vs : List V) (Q : VK), Room k A → A.guards = some [] → Env0 P w K mg base A outer s H → BindsTo s fd args (ps.zip us) → Vals vs us → sp vs H Q →
    codeAny (model P w) A (.call (.ref f) args) (CR L2.CX0 outer P w H s Q L2.E0) s
theorem FnI.mono {P : Program} {w : World} {K : PySem.W.Frag} {mg : Str → Option Value} {base : Heap} {j k : Nat} {f : Addr} {fd : FuncData} {ps : List Str} {sp : SpI} (F : FnI P w K mg base j f fd ps sp) (h : j ≤ k) : FnI P w K mg base k f fd ps sp :=
  ⟨F.len, fun A outer s H args us vs Q hr => F.run A outer s H args us vs Q (hr.mono h)⟩
/-- what the evaluation of a def promises -/
def spI (K : PySem.W.Frag) (F : CF) (ar fi : Nat) : SpI := fun vs H Q => ∃ (S : Sto) (μ : Mu) (ds : List D) (d : D) (S' : Sto), Good K S μ H ∧ Reps K S μ H ds vs ∧ ds.length = ar ∧ F fi ds S = some (d, S') ∧ ContS K S μ H S' d Q

section
variable {X : Cx} {F : CF} {a b c e : Expr} {es : List Expr} {ia ib ic ie : E} {ies : Es} {pos : Pos}
/-- a def that may be called here -/
structure CallOk (X : Cx) (F : CF) (fi ar : Nat) (x : Str) : Prop where
  ar_ : ∀ ds S r, F fi ds S = some r → ds.length = ar
  ex : ∃ (f : Addr) (fd : FuncData) (ps : List Str) (k : Nat), X.mg x = some (.ref f) ∧ PySem.W.keepIn X.K (.ref f) = true ∧ Binds X.K fd ps [] ∧ Room k X.A ∧ FnI X.prog X.w X.K X.mg X.base k f fd ps (spI X.K F ar fi)
/-- the callee runs -/
theorem run_I {pins : List (Addr × Obj)} {σ : L2.St} {H : Hp} {s : Shared} {Q : VK} {args : Args} {us : List Value} {vs : List V} {k : Nat} {f : Addr} {fd : FuncData} {ps : List Str} {sp : SpI} (G : FnI X.prog X.w X.K X.mg X.base k f fd ps sp) (hr : Room k X.A) (hgd : X.A.guards = some [])
    (I : Inv X pins σ H s) (hb : BindsTo s fd args (ps.zip us)) (r : Vals vs us) (h : sp vs H Q) : codeAny (model X.prog X.w) X.A (.call (.ref f) args) (fun r s' => match r with | .ok (.ret v) => EP X pins σ Q v s' | .ok _ => False | .error e => X.xe e s') s :=
  codeAny_mono (G.run X.A X.stack s H args us vs Q hr hgd I.env0 hb r h) fun r s' hq => by
    cases r with
    | error e => exact False.elim hq
    | ok fl =>
      cases fl with
      | ret u => exact I.after hq
      | next => exact False.elim hq
      | brk => exact False.elim hq
      | cont => exact False.elim hq
theorem tA_run {K : PySem.W.Frag} {σ : L2.St} {H : Hp} {R : List V → Hp → Prop} {ρ : Env} {S S1 : Sto} {μ : Mu} {xs : List D} (g : Good K S μ H) (r : RelS K S μ H ρ σ) (q : evs F ies ρ S = some (xs, S1))
    (k : ∀ vs μ1 H1, Good K S1 μ1 H1 → Evo S μ H S1 μ1 H1 → Reps K S1 μ1 H1 xs vs → R vs H1) : tA K F ies σ H R := ⟨ρ, S, μ, xs, S1, g, r, q, k⟩
/-- f(e, ..) -/
theorem i_call {fi ar : Nat} {x : Str} {p : Pos} (ok : Cok X) (hg : Gl X x) (C : CallOk X F fi ar x) (ha : PA X (e :: es) (tA X.K F ies)) (hdb : (x == ("__debug__" : Str)) = false := by decide)
    (he : starEach (e :: es) X.env = (false, eval e X.env) :: starEach es X.env := by rfl) (hpl : (backTo pos (starEach es X.env)).any (·.1) = false := by rfl) : PE X (.Call (.Name x p) (e :: es) [] pos) (tE X.K F (.call fi ies)) := by
  obtain ⟨f, fd, ps, k, hm, hk, hb, hr, G⟩ := C.ex
  refine ⟨fun pins s σ H Q I ⟨ρ, S, μ, d, S', g, r, q, kk⟩ => ?_⟩
  simp only [ev] at q
  split at q
  · rename_i xs S1 ea
    refine wpAny_Call_Name_kw (ld_glob I hg hm ?_ hdb)
    refine PySem.W.callWith_K (h₀ := X.base) I.ok.mod.kin hk (thn (ha.run pos pins s σ H (fun vs H1 => spI X.K F ar fi vs H1 Q) I (tA_run g r ea fun vs μ1 H1 g1 e1 rv => ?_)) ?_) he hpl
    · exact ⟨S1, μ1, xs, d, S', g1, rv, C.ar_ _ _ _ q, q, fun v μ2 H2 g2 e2 rd => kk v μ2 H2 g2 (e1.trans e2) rd⟩
    · rintro us s1 ⟨vs, H1, I1, rr, hq⟩
      have hl : (us ++ []).length = ps.length := by rw [List.append_nil, ← rr.length]; exact G.len _ _ _ hq
      have hbb := hb s1 us I1.kIn hl
      rw [List.append_nil] at hbb
      exact ⟨I1.kIn, wpAny_call (run_I G hr ok.gd I1 hbb rr hq)⟩
  · cases q
/-- f() -/
theorem i_call0 {fi ar : Nat} {x : Str} {p : Pos} (ok : Cok X) (hg : Gl X x) (C : CallOk X F fi ar x) (hdb : (x == ("__debug__" : Str)) = false := by decide) : PE X (.Call (.Name x p) [] [] pos) (tE X.K F (.call fi .nil)) := by
  obtain ⟨f, fd, ps, k, hm, hk, hb, hr, G⟩ := C.ex
  refine ⟨fun pins s σ H Q I ⟨ρ, S, μ, d, S', g, r, q, kk⟩ => ?_⟩
  simp only [ev, evs] at q
  have hq : spI X.K F ar fi [] H Q := ⟨S, μ, [], d, S', g, rfl, C.ar_ _ _ _ q, q, kk⟩
  have hl : ([] ++ [] : List Value).length = ps.length := G.len _ _ _ hq
  have hbb := hb s [] I.kIn hl
  rw [List.append_nil] at hbb
  exact wpAny_Call_Name_kw (ld_glob I hg hm (PySem.W.callWith_K0 I.kIn hk (wpAny_call (run_I G hr ok.gd I hbb .nil hq))) hdb)
/-- a method that may be called here -/
structure MethOk (X : Cx) (F : CF) (fi ar : Nat) (x m : Str) : Prop where
  ar_ : ∀ ds S r, F fi ds S = some r → ds.length = ar
  cls : Cls X.K (He.ga X.K x)
  ex : ∃ (f : Addr) (fd : FuncData) (ps : List Str) (k : Nat), Meth X.K (He.ga X.K x) m f ∧ Binds X.K fd ps [] ∧ Room k X.A ∧ FnI X.prog X.w X.K X.mg X.base k f fd ps (spI X.K F ar fi)
theorem mcall_read {x m : Str} {fi ar : Nat} {io : E} (M : MethOk X F fi ar x m) {σ : L2.St} {H : Hp} {Q : VK} (h : tE X.K F (.mcall x m fi io ies) σ H Q) : tE X.K F io σ H fun v H1 => ∃ a dx fs, v = .ref a ∧ H1 a = some (.ins (He.ga X.K x) dx fs) ∧ fs.lookup m = none ∧ tA X.K F ies σ H1 fun vs H2 => spI X.K F ar fi (v :: vs) H2 Q := by
  obtain ⟨ρ, S, μ, d, S', g, r, q, k⟩ := h
  simp only [ev] at q
  split at q
  · rename_i i S1 eo
    split at q
    · rename_i y ns fs hS
      split at q
      · rename_i hy
        rw [Bool.and_eq_true, decide_eq_true_eq, Bool.not_eq_true'] at hy
        obtain ⟨rfl, hm⟩ := hy
        split at q
        · cases q
        · rename_i xs S2 ea
          refine ⟨ρ, S, μ, .ref i, S1, g, r, eo, fun v μ1 H1 g1 e1 rv => ?_⟩
          obtain ⟨a, dx, vs, rfl, ma, ha, hl, rr⟩ := g1.ob hS rv
          refine ⟨a, dx, _, rfl, ha, look_none ns vs hm, ρ, S1, μ1, xs, S2, g1, r.mono g e1.w, ea, fun ws μ2 H2 g2 e2 rws => ?_⟩
          have rs : Reps X.K S2 μ2 H2 (.ref i :: xs) (.ref a :: ws) := ⟨_, _, rfl, rv.mono g1 e2.w, rws⟩
          exact ⟨S2, μ2, .ref i :: xs, d, S', g2, rs, M.ar_ _ _ _ q, q, fun v' μ3 H3 g3 e3 rd => k v' μ3 H3 g3 ((e1.trans e2).trans e3) rd⟩
      · cases q
    · cases q
  · cases q
theorem i_mcall {x m : Str} {fi ar : Nat} {o : Expr} {io : E} {apos : Pos} {pl : Sem Bool} (ok : Cok X) (M : MethOk X F fi ar x m) (ho : PE X o (tE X.K F io)) (ha : PA X (e :: es) (tA X.K F ies)) (hst : starEach (e :: es) X.env = (false, eval e X.env) :: starEach es X.env := by rfl) (hpl : (backTo pos (starEach es X.env)).any (·.1) = false := by rfl)
    (ht : eval (.Call (.Attribute o m apos) (e :: es) [] pos) X.env = (do
      let ov ← eval o X.env
      standAt apos.atName
      let (f, first) ← holding [ov] (getMethod ov m pl)
      callWith pos f first (backTo pos (starEach (e :: es) X.env)) (backToKw pos (keywordEach [] X.env))) := by rfl) : PE X (.Call (.Attribute o m apos) (e :: es) [] pos) (tE X.K F (.mcall x m fi io ies)) := by
  obtain ⟨f, fd, ps, k, hm, hb, hr, G⟩ := M.ex
  refine ⟨fun pins s σ H Q I h => ?_⟩
  refine PySem.W.methodCall_KW (pl := pl) (thn (ho.run pins s σ H _ I (mcall_read M h)) fun u s1 ⟨v, H1, I1, rx, a, dx, fs, ex, ea, l, q⟩ => ?_) ht
  subst ex
  obtain rfl : u = Value.ref a := rx
  refine getmeth_ok I1 ea M.cls hm l ?_
  refine PySem.W.callWith_K (first := [.ref a]) (h₀ := X.base) I.ok.mod.kin hm.kp (thn (ha.run pos pins s1 σ H1 _ I1 q) fun us s2 ⟨vs, H2, I2, r, q2⟩ => ⟨I2.kIn, ?_⟩) hst hpl
  have r2 : Vals (V.ref a :: vs) (Value.ref a :: us) := .cons rfl r
  have hl : (Value.ref a :: us ++ []).length = ps.length := by rw [List.append_nil, ← r2.length]; exact G.len _ _ _ q2
  have hbb := hb s2 (Value.ref a :: us) I2.kIn hl
  rw [List.append_nil] at hbb
  exact wpAny_call (run_I G hr ok.gd I2 hbb r2 q2)
theorem i_mcall0 {x m : Str} {fi ar : Nat} {o : Expr} {io : E} {apos : Pos} {pl : Sem Bool} (ok : Cok X) (M : MethOk X F fi ar x m) (ho : PE X o (tE X.K F io))
    (ht : eval (.Call (.Attribute o m apos) [] [] pos) X.env = (do
      let ov ← eval o X.env
      standAt apos.atName
      let (f, first) ← holding [ov] (getMethod ov m pl)
      callWith pos f first (backTo pos (starEach [] X.env)) (backToKw pos (keywordEach [] X.env))) := by rfl) : PE X (.Call (.Attribute o m apos) [] [] pos) (tE X.K F (.mcall x m fi io .nil)) := by
  obtain ⟨f, fd, ps, k, hm, hb, hr, G⟩ := M.ex
  refine ⟨fun pins s σ H Q I h => ?_⟩
  refine PySem.W.methodCall_KW (pl := pl) (thn (ho.run pins s σ H _ I (mcall_read M h)) fun u s1 ⟨v, H1, I1, rx, a, dx, fs, ex, ea, l, ρ, S, μ, xs, S1, g, rr, q, kk⟩ => ?_) ht
  subst ex
  obtain rfl : u = Value.ref a := rx
  refine getmeth_ok I1 ea M.cls hm l ?_
  simp only [evs] at q
  cases q
  have q2 := kk [] μ H1 g (Evo.refl _ _ _) rfl
  have r2 : Vals [V.ref a] [Value.ref a] := .cons rfl .nil
  have hl : ([Value.ref a] ++ []).length = ps.length := by rw [List.append_nil, ← r2.length]; exact G.len _ _ _ q2
  have hbb := hb s1 [Value.ref a] I1.kIn hl
  rw [List.append_nil] at hbb
  exact PySem.W.callWith_K0 (first := [.ref a]) I1.kIn hm.kp (wpAny_call (run_I G hr ok.gd I1 hbb r2 q2))
/-- a class that may be made here -/
structure MakeOk (X : Cx) (F : CF) (fi ar : Nat) (x : Str) : Prop where
  ar_ : ∀ ds S r, F fi ds S = some r → ds.length = ar
  at_ : X.mg x = some (.ref (He.ga X.K x))
  ex : ∀ ds S r, F fi ds S = some r → ∃ (f : Addr) (fd : FuncData) (ps : List Str) (k : Nat), Mk X.K (He.ga X.K x) f ∧ Binds X.K fd ps [] ∧ Room (k + 1) X.A ∧ FnI X.prog X.w X.K X.mg X.base k f fd ps (spI X.K F ar fi)
theorem i_mko {x : Str} {fi ar : Nat} {p : Pos} (ok : Cok X) (hg : Gl X x) (M : MakeOk X F fi ar x) (ha : PA X (e :: es) (tA X.K F ies)) (hdb : (x == ("__debug__" : Str)) = false := by decide) (he : starEach (e :: es) X.env = (false, eval e X.env) :: starEach es X.env := by rfl) (hpl : (backTo pos (starEach es X.env)).any (·.1) = false := by rfl) :
    PE X (.Call (.Name x p) (e :: es) [] pos) (tE X.K F (.mko x fi ies)) := by
  refine ⟨fun pins s σ H Q I ⟨ρ, S, μ, d, S', g, r, q, kk⟩ => ?_⟩
  simp only [ev] at q
  split at q
  · cases q
  · rename_i xs S1 ea
    split at q
    · rename_i S2 eb
      cases q
      obtain ⟨f, fd, ps, k, hM, hb, hr, G⟩ := M.ex _ _ _ eb
      refine wpAny_Call_Name_kw (ld_glob I hg M.at_ ?_ hdb)
      refine PySem.W.callWith_K (h₀ := X.base) I.ok.mod.kin hM.kp (thn (ha.run pos pins s σ H (fun vs H1 => ∀ b dx, H1 b = none → H1 dx = none → dx ≠ b → spI X.K F ar fi (.ref b :: vs) (upd (upd H1 dx (.own b)) b (.ins (He.ga X.K x) dx [])) fun v H2 => v = .non ∧ Q (.ref b) H2) I ⟨ρ, S, μ, xs, S1, g, r, ea, fun vs μ1 H1 g1 e1 rv => ?_⟩) ?_) he hpl
      · intro b dx hb0 hd0 hne
        have gA := good_new (o := .own b) g1 hd0
        have eA := evo_new (o := .own b) g1 hd0
        have hb1 : (upd H1 dx (.own b)) b = none := by rw [upd_ne (Ne.symm hne)]; exact hb0
        have oB : Obs X.K S1 μ1 (upd H1 dx (.own b)) [.cl x []] (.ins (He.ga X.K x) dx []) := ⟨dx, [], rfl, rfl, rfl⟩
        have gB := good_mk2 gA hb1 oB
        have eB := evo_mk (xs := [.cl x []]) (o := .ins (He.ga X.K x) dx []) gA hb1
        have e2 := (e1.trans eA).trans eB
        have rs : Reps X.K (S1 ++ [some [.cl x []]]) (μ1.more b) (upd (upd H1 dx (.own b)) b (.ins (He.ga X.K x) dx [])) (.ref S1.length :: xs) (.ref b :: vs) := ⟨_, _, rfl, ⟨b, rfl, get_last g1.len⟩, (rv.mono g1 eA.w).mono gA eB.w⟩
        exact ⟨_, _, _, _, _, gB, rs, M.ar_ _ _ _ eb, eb, fun v μ3 H3 g3 e3 rd => ⟨rd, kk _ _ _ g3 (e2.trans e3) ⟨b, rfl, e3.w.mu _ _ (get_last g1.len)⟩⟩⟩
      · rintro us s1 ⟨vs, H1, I1, rr, hq⟩
        refine ⟨I1.kIn, ?_⟩
        have hq2 := hq (s1.heap.objs.size + 1) s1.heap.objs.size (I1.hok.fresh (Nat.le_succ _)) (I1.hok.fresh (Nat.le_refl _)) (Nat.ne_of_lt (Nat.lt_succ_self _))
        have I2 := Inv.made (C := He.ga X.K x) I1
        have r2 : Vals (V.ref (s1.heap.objs.size + 1) :: vs) (Value.ref (s1.heap.objs.size + 1) :: us) := .cons rfl rr
        have hl : (Value.ref (s1.heap.objs.size + 1) :: us ++ []).length = ps.length := by rw [List.append_nil, ← r2.length]; exact G.len _ _ _ hq2
        have hbb := hb _ (Value.ref (s1.heap.objs.size + 1) :: us) I2.kIn hl
        rw [List.append_nil] at hbb
        refine wpAny_call (make_map (f := f) I1.kIn hM.makes hM.init (beq_iff_eq.mp hM.fn) (codeAny_mono (G.run _ X.stack _ _ ⟨Value.ref (s1.heap.objs.size + 1) :: us, []⟩ (Value.ref (s1.heap.objs.size + 1) :: us) _ _ (hr.make (He.ga X.K x) us []) ok.gd (I2.env0.make (He.ga X.K x) us []) hbb r2 hq2) fun r s' hq' => ?_))
        cases r with
        | error e => exact False.elim hq'
        | ok fl =>
          cases fl with
          | ret u =>
            obtain ⟨v, H', I3, rv, ev, q3⟩ := I2.after hq'
            subst ev
            exact ⟨rv, ⟨V.ref (s1.heap.objs.size + 1), H', I3, rfl, q3⟩⟩
          | next => exact False.elim hq'
          | brk => exact False.elim hq'
          | cont => exact False.elim hq'
    · cases q
theorem evs_len : ∀ {es : Es} {n : Nat} {ρ : Env} {S S1 : Sto} {xs : List D}, plainEs es = some n → evs F es ρ S = some (xs, S1) → xs.length = n
  | .nil, n, ρ, S, S1, xs, h, q => by
    simp only [evs] at q
    cases q
    cases h
    rfl
  | .cons e es, n, ρ, S, S1, xs, h, q => by
    simp only [plainEs] at h
    obtain ⟨m, hm, rfl⟩ := Option.map_eq_some_iff.mp h
    simp only [evs] at q
    split at q
    · cases q
    · split at q
      · cases q
      · rename_i ys S2 eb
        cases q
        rw [List.length_cons, evs_len hm eb]
  | .star _ _, _, _, _, _, _, h, _ => by cases h
theorem reps_prm {K : PySem.W.Frag} {S : Sto} {μ : Mu} {H : Hp} {xs : List D} {vs : List V} (h : Reps K S μ H xs vs) : ∀ pm : List Nat, Reps K S μ H (prm pm xs) (prm pm vs)
  | [] => rfl
  | i :: pm => by
    have ih := reps_prm h pm
    unfold prm at ih ⊢
    rw [List.filterMap_cons, List.filterMap_cons]
    cases e : xs[i]? with
    | none =>
      have e2 : vs[i]? = none := List.getElem?_eq_none (by rw [← h.length]; exact List.getElem?_eq_none_iff.mp e)
      rw [e2]
      exact ih
    | some d =>
      obtain ⟨v, hv, r⟩ := h.get e
      rw [hv]
      exact ⟨v, _, rfl, r, ih⟩
theorem vals_prm {vs : List V} {us : List Value} (h : Vals vs us) : ∀ pm : List Nat, Vals (prm pm vs) (prm pm us)
  | [] => .nil
  | i :: pm => by
    have ih := vals_prm h pm
    unfold prm at ih ⊢
    rw [List.filterMap_cons, List.filterMap_cons]
    cases e : vs[i]? with
    | none =>
      rw [h.none_of e]
      exact ih
    | some d =>
      obtain ⟨v, hv, r⟩ := h.get e
      rw [hv]
      exact .cons r ih
structure CallKOk (X : Cx) (F : CF) (fi ar : Nat) (x : Str) (n : Nat) (ks : List Str) (pm : List Nat) : Prop where
  ar_ : ∀ ds S r, F fi ds S = some r → ds.length = ar
  ex : ∃ (f : Addr) (fd : FuncData) (ps : List Str) (k : Nat), X.mg x = some (.ref f) ∧ PySem.W.keepIn X.K (.ref f) = true ∧ (∀ (s : Shared) (us ws : List Value), us.length = n → ws.length = ks.length → BindsTo s fd ⟨us, ks.zip ws⟩ (ps.zip (prm pm (us ++ ws)))) ∧ Room k X.A ∧ FnI X.prog X.w X.K X.mg X.base k f fd ps (spI X.K F ar fi)
/-- the keywords' values -/
theorem k_nil : PK X [] (tA X.K F .nil) := ⟨fun pos pins s σ H Q I ⟨ρ, S, μ, d, S', g, r, q, k⟩ => by
  simp only [evs] at q
  cases q
  exact pk_nil.run pos pins s σ H Q I (k [] μ H g (Evo.refl _ _ _) rfl)⟩
theorem k_cons {nm : Option Str} {kpos : Pos} {kws : List Keyword} (ha : PE X a (tE X.K F ia)) (hr : PK X kws (tA X.K F ies)) : PK X (⟨nm, a, kpos⟩ :: kws) (tA X.K F (.cons ia ies)) := ⟨fun pos pins s σ H Q I ⟨ρ, S, μ, d, S', g, r, q, k⟩ => by
  simp only [evs] at q
  split at q
  · cases q
  · rename_i x S1 ea
    split at q
    · cases q
    · rename_i xs S2 eb
      cases q
      exact (pk_cons ha hr).run pos pins s σ H Q I ⟨ρ, S, μ, x, S1, g, r, ea, fun v μ1 H1 g1 e1 rv => ⟨ρ, S1, μ1, xs, _, g1, r.mono g e1.w, eb, fun vs μ2 H2 g2 e2 rw => k _ _ _ g2 (e1.trans e2) ⟨v, vs, rfl, rv.mono g1 e2.w, rw⟩⟩⟩⟩
/-- f(k = v, ..) -/
theorem i_callK0 {fi ar : Nat} {x : Str} {p : Pos} {kws : List Keyword} {ks : List Str} {pm : List Nat} {kes : Es} (ok : Cok X) (hg : Gl X x) (C : CallKOk X F fi ar x 0 ks pm) (hkw : PK X kws (tA X.K F kes)) (hl : plainEs kes = some ks.length)
    (hall : (backToKw pos (keywordEach kws X.env)).all (·.1.isSome) = true := by rfl) (hks : (backToKw pos (keywordEach kws X.env)).filterMap (·.1) = ks := by rfl) (hdb : (x == ("__debug__" : Str)) = false := by decide)
    (hpl : ((backTo pos (starEach [] X.env)).any (·.1) || (backToKw pos (keywordEach kws X.env)).any (·.1.isNone)) = false := by rfl) : PE X (.Call (.Name x p) [] kws pos) (tE X.K F (.callK fi .nil kes pm)) := by
  obtain ⟨f, fd, ps, k, hm, hk, hb, hr, G⟩ := C.ex
  refine ⟨fun pins s σ H Q I ⟨ρ, S, μ, d, S', g, r, q, kk⟩ => ?_⟩
  simp only [ev, evs] at q
  split at q
  · cases q
  · rename_i ys S2 eb
    refine wpAny_Call_Name_kw (ld_glob I hg hm ?_ hdb)
    refine PySem.W.callWith_KW0 (h₀ := X.base) I.ok.mod.kin hk hall ?_ hpl
    refine thn (hkw.run pos pins s σ H (fun vs H1 => vs.length = ks.length ∧ spI X.K F ar fi (prm pm ([] ++ vs)) H1 Q) I (tA_run g r eb fun vs μ1 H1 g1 e1 rv => ?_)) ?_
    · exact ⟨by rw [← rv.length, evs_len hl eb], S2, μ1, _, d, S', g1, reps_prm (by simpa using rv) pm, C.ar_ _ _ _ q, q, fun v μ2 H2 g2 e2 rd => kk v μ2 H2 g2 (e1.trans e2) rd⟩
    · rintro us s1 ⟨vs, H1, I1, rr, hl2, hq⟩
      refine ⟨I1.kIn, ?_⟩
      rw [hks]
      refine wpAny_call (run_I G hr ok.gd I1 (hb s1 [] us rfl (by rw [← rr.length, hl2])) (vals_prm (by simpa using rr) pm) hq)
/-- f(e, .., k = v, ..) -/
theorem i_callK {fi ar n : Nat} {x : Str} {p : Pos} {kws : List Keyword} {ks : List Str} {pm : List Nat} {kes : Es} (ok : Cok X) (hg : Gl X x) (C : CallKOk X F fi ar x n ks pm) (ha : PA X (e :: es) (tA X.K F ies)) (hn : plainEs ies = some n) (hkw : PK X kws (tA X.K F kes)) (hl : plainEs kes = some ks.length)
    (hall : (backToKw pos (keywordEach kws X.env)).all (·.1.isSome) = true := by rfl) (hks : (backToKw pos (keywordEach kws X.env)).filterMap (·.1) = ks := by rfl) (hdb : (x == ("__debug__" : Str)) = false := by decide) (he : starEach (e :: es) X.env = (false, eval e X.env) :: starEach es X.env := by rfl)
    (hpl : ((backTo pos (starEach (e :: es) X.env)).any (·.1) || (backToKw pos (keywordEach kws X.env)).any (·.1.isNone)) = false := by rfl) : PE X (.Call (.Name x p) (e :: es) kws pos) (tE X.K F (.callK fi ies kes pm)) := by
  obtain ⟨f, fd, ps, k, hm, hk, hb, hr, G⟩ := C.ex
  refine ⟨fun pins s σ H Q I ⟨ρ, S, μ, d, S', g, r, q, kk⟩ => ?_⟩
  simp only [ev] at q
  split at q
  · cases q
  · rename_i xs S1 ea
    split at q
    · cases q
    · rename_i ys S2 eb
      refine wpAny_Call_Name_kw (ld_glob I hg hm ?_ hdb)
      refine PySem.W.callWith_KW (h₀ := X.base) I.ok.mod.kin hk hall (thn (ha.run pos pins s σ H (fun vs H1 => ∃ μ1, Good X.K S1 μ1 H1 ∧ Evo S μ H S1 μ1 H1 ∧ Reps X.K S1 μ1 H1 xs vs) I (tA_run g r ea fun vs μ1 H1 g1 e1 rv => ⟨μ1, g1, e1, rv⟩)) ?_) hpl he
      rintro us s1 ⟨vs, H1, I1, rr, μ1, g1, e1, rv⟩
      refine thn (hkw.run pos pins s1 σ H1 (fun ws H2 => ws.length = ks.length ∧ spI X.K F ar fi (prm pm (vs ++ ws)) H2 Q) I1 (tA_run g1 (r.mono g e1.w) eb fun ws μ2 H2 g2 e2 rw => ?_)) ?_
      · exact ⟨by rw [← rw.length, evs_len hl eb], S2, μ2, _, d, S', g2, reps_prm ((rv.mono g1 e2.w).append rw) pm, C.ar_ _ _ _ q, q, fun v μ3 H3 g3 e3 rd => kk v μ3 H3 g3 ((e1.trans e2).trans e3) rd⟩
      · rintro zs s2 ⟨ws, H2, I2, rz, hl2, hq⟩
        refine ⟨I2.kIn, ?_⟩
        rw [hks]
        refine wpAny_call (run_I G hr ok.gd I2 (hb s2 us zs (by rw [← rr.length, ← rv.length, evs_len hn ea]) (by rw [← rz.length, hl2])) (vals_prm (rr.append rz) pm) hq)

theorem biD_read {K : PySem.W.Frag} {b : BI} {σ : L2.St} {H : Hp} {Q : VK} : tE K F (.bi b ies) σ H Q → tCB (rBi K b) (tA K F ies) σ H Q := fun ⟨ρ, S, μ, d, S', g, r, q, k⟩ => by
  simp only [ev] at q
  split at q
  · rename_i xs S1 ea
    split at q
    · rename_i ys sy
      split at q
      · rename_i z ez
        cases q
        refine ⟨ρ, S, μ, xs, _, g, r, ea, fun vs μ1 H1 g1 e1 rv => ⟨_, μ1, ys, _, g1, seeAll_ok g1 rv sy, ez, fun v' H' g2 e2 rz => k v' μ1 H' g2 (e1.trans e2) rz⟩⟩
      · cases q
    · cases q
  · cases q
/-- f(e, ..), f a built-in function -/
theorem i_biB {b : BI} {id : String} {x : Str} {p : Pos} (ok : Cok X) (hid : biV b = .builtin id) (hg : Gl X x) (hm : X.mg x = none) (hv : bootBuiltins x = some (.builtin id)) (ha : PA X (e :: es) (tA X.K F ies)) (hn : x ≠ "__name__" := by decide) (hdb : (x == ("__debug__" : Str)) = false := by decide)
    (he : starEach (e :: es) X.env = (false, eval e X.env) :: starEach es X.env := by rfl) (hpl : (backTo pos (starEach es X.env)).any (·.1) = false := by rfl) : PE X (.Call (.Name x p) (e :: es) [] pos) (tE X.K F (.bi b ies)) :=
  PE.weak (pe_callB (r := rBi X.K b) (by rw [← hid]; exact call_bi ok.calm ok.gd ok.un b) hg hm hv ha hn hdb he hpl) fun σ H Q h => biD_read h
/-- T(e, ..), T a built-in type -/
theorem i_biT {b : BI} {T : String} {x : Str} {p : Pos} (ok : Cok X) (hid : biV b = .type T) (hg : Gl X x) (hm : X.mg x = none) (hv : bootBuiltins x = some (.type T)) (ha : PA X (e :: es) (tA X.K F ies)) (hn : x ≠ "__name__" := by decide) (hdb : (x == ("__debug__" : Str)) = false := by decide)
    (he : starEach (e :: es) X.env = (false, eval e X.env) :: starEach es X.env := by rfl) (hpl : (backTo pos (starEach es X.env)).any (·.1) = false := by rfl) : PE X (.Call (.Name x p) (e :: es) [] pos) (tE X.K F (.bi b ies)) :=
  PE.weak (pe_callTy (r := rBi X.K b) (by rw [← hid]; exact call_bi ok.calm ok.gd ok.un b) hg hm hv ha hn hdb he hpl) fun σ H Q h => biD_read h

/-- list(e), a place of its own -/
theorem i_mk {x : Str} {p : Pos} (ok : Cok X) (hg : Gl X x) (hm : X.mg x = none) (hv : bootBuiltins x = some (.type "list")) (ha : PA X (e :: es) (tA X.K F ies)) (hn : x ≠ "__name__" := by decide) (hdb : (x == ("__debug__" : Str)) = false := by decide)
    (he : starEach (e :: es) X.env = (false, eval e X.env) :: starEach es X.env := by rfl) (hpl : (backTo pos (starEach es X.env)).any (·.1) = false := by rfl) : PE X (.Call (.Name x p) (e :: es) [] pos) (tE X.K F (.mk ies)) :=
  PE.weak (pe_callTy (r := rMk X.K) (call_mk ok.calm) hg hm hv ha hn hdb he hpl) fun σ H Q ⟨ρ, S, μ, d, S', g, r, q, k⟩ => by
    simp only [ev] at q
    split at q
    · rename_i xs S1 ea
      split at q
      · rename_i ys sy
        split at q
        · rename_i zs ez
          exact ⟨ρ, S, μ, xs, _, g, r, ea, fun vs μ1 H1 g1 e1 rv => ⟨_, μ1, ys, zs, _, _, g1, seeAll_ok g1 rv sy, ez, q, fun v' μ' H' g2 e2 rz => k v' μ' H' g2 (e1.trans e2) rz⟩⟩
        · cases q
      · cases q
    · cases q

theorem i_fmt {a : Expr} {ia : E} (ha : PE X a (tE X.K F ia)) : PE X (.FormattedValue a (-1) none pos) (tE X.K F (.fmt ia)) :=
  PE.weak (pe_fmt ha) fun σ H Q ⟨ρ, S, μ, d, S', g, r, q, k⟩ => by
    simp only [ev] at q
    split at q
    · rename_i y S1 ea
      split at q
      · rename_i hz
        cases q
        exact ⟨ρ, S, μ, _, _, g, r, ea, fun v μ1 H1 g1 e1 rv => .inl ⟨y, rv, small_line hz, k _ _ _ g1 e1 rfl⟩⟩
      · cases q
    · rename_i i S1 ea
      split at q
      · rename_i hz
        rw [decide_eq_true_eq] at hz
        cases q
        exact ⟨ρ, S, μ, _, _, g, r, ea, fun v μ1 H1 g1 e1 rv => .inr ⟨i, rv, by have := natAbs_log hz (by decide); omega, k _ _ _ g1 e1 rfl⟩⟩
      · cases q
    · cases q
def tsOf (K : PySem.W.Frag) (F : CF) : Es → List TE
  | .nil => []
  | .cons e es => tE K F e :: tsOf K F es
  | .star _ _ => []
inductive PJI (X : Cx) (F : CF) : List Expr → Es → Prop where
  | nil : PJI X F [] .nil
  | cons {e : Expr} {es : List Expr} {ie : E} {ies : Es} (h : PE X e (tE X.K F ie)) (r : PJI X F es ies) : PJI X F (e :: es) (.cons ie ies)
theorem pji_pj {es : List Expr} {ies : Es} (h : PJI X F es ies) : PJ X es (tsOf X.K F ies) := by
  induction h with
  | nil => exact .nil
  | cons h _ ih => exact .cons h ih
theorem js_run {K : PySem.W.Frag} {σ : L2.St} {Q : Str → Hp → Prop} {es : List Expr} {ies : Es} (h : PJI X F es ies) : ∀ (acc : Str) (ρ : Env) (S S1 : Sto) (μ : Mu) (H : Hp) (xs : List D) (ss : List Str), Good K S μ H → RelS K S μ H ρ σ → evs F ies ρ S = some (xs, S1) → strs? xs = some ss → acc.length + (ss.map (·.length)).sum ≤ sizeLine →
    (∀ μ' H', Good K S1 μ' H' → Evo S μ H S1 μ' H' → Q (catS acc ss) H') → tJs (tsOf K F ies) acc σ H Q := by
  induction h with
  | nil =>
    intro acc ρ S S1 μ H xs ss g r q qs hz k
    simp only [evs] at q
    cases q
    cases qs
    exact k μ H g (Evo.refl _ _ _)
  | @cons e es ie ies hp r0 ih =>
    intro acc ρ S S1 μ H xs ss g r q qs hz k
    simp only [evs] at q
    split at q
    · cases q
    · rename_i x S2 ea
      split at q
      · cases q
      · rename_i ys S3 eb
        cases q
        cases x with
        | str y =>
          simp only [strs?] at qs
          obtain ⟨rs, e1, rfl⟩ := Option.map_eq_some_iff.mp qs
          simp only [List.map_cons, List.sum_cons] at hz
          refine ⟨ρ, S, μ, _, _, g, r, ea, fun v μ1 H1 g1 ev1 rv => ⟨y, rv, by rw [strLen_append]; omega, ih (acc ++ y) ρ S2 S1 μ1 H1 ys rs g1 (r.mono g ev1.w) eb e1 (by rw [strLen_append]; omega) fun μ' H' g' e' => k μ' H' g' (ev1.trans e')⟩⟩
        | _ => simp [strs?] at qs
theorem i_js {v1 v2 : Expr} {rest : List Expr} {ies : Es} (h : PJI X F (v1 :: v2 :: rest) ies) : PE X (.JoinedStr (v1 :: v2 :: rest) pos) (tE X.K F (.js ies)) :=
  PE.weak (pe_joined (pji_pj h)) fun σ H Q ⟨ρ, S, μ, d, S', g, r, q, k⟩ => by
    simp only [ev] at q
    split at q
    · rename_i xs S1 ea
      split at q
      · rename_i ss es
        split at q
        · rename_i hz
          cases q
          exact js_run h _ ρ S S' μ H xs ss g r ea es (by have := small_line hz; show 0 + _ ≤ _; omega) fun μ' H' g' e' => k _ _ _ g' e' rfl
        · cases q
      · cases q
    · cases q

def rIsO (K : PySem.W.Frag) (tys : List Ty) (one : Bool) : List V → Hp → VK → Prop := fun vs H Q => ∃ S μ x v, Good K S μ H ∧ Seen K S μ H x v ∧ (∀ i, x ≠ .ref i) ∧
  ((one = true ∧ ∃ t, tys = [t] ∧ vs = [v, .ty (tyS t)]) ∨ (one = false ∧ ∃ p, vs = [v, .ref p] ∧ H p = some (.tup (tys.map fun t => V.ty (tyS t))))) ∧ Q (.bl (tys.any (isTy x))) H
theorem pairedC : ∀ ts : List Ty, Paired ClsV (ts.map fun t => V.ty (tyS t)) (ts.map fun t => Value.type (tyS t))
  | [] => .nil
  | t :: ts => .cons (.ty _) (pairedC ts)
theorem call_isO {tys : List Ty} {one : Bool} : CallR X (.builtin "isinstance") (rIsO X.K tys one) := by
  intro pins s σ H vs us Q I r h
  obtain ⟨S, μ, x, v, g, hx, nr, h, q⟩ := h
  rcases h with ⟨_, t, rfl, rfl⟩ | ⟨_, p, rfl, hp⟩
  · refine call_isi pins s σ H _ us Q I r ⟨v, .ty (tyS t), _, _, isTy x t, rfl, .ty _, ty_of nr hx, kit_isTy t, ?_⟩
    simpa using q
  · exact call_isiT pins s σ H _ us Q I r ⟨v, p, _, _, _, _, rfl, hp, pairedC tys, ty_of nr hx, kit_any tys, q⟩
/-- the classes' names -/
structure TyOk (X : Cx) (e : Expr) (t : Ty) : Prop where
  pe : PE X e (tC (.ty (tyS t)))
theorem ty_ok {x : Str} {t : Ty} {p : Pos} (hg : Gl X x) (hm : X.mg x = none) (hv : bootBuiltins x = some (.type (tyS t))) (hn : x ≠ "__name__" := by decide) (hdb : (x == ("__debug__" : Str)) = false := by decide) : TyOk X (.Name x p) t := ⟨pe_bltn hg hm hv rfl hn hdb⟩
theorem is_read {K : PySem.W.Frag} {tys : List Ty} {σ : L2.St} {H : Hp} {Q : VK} (h : tE K F (.isi ia tys) σ H Q) : tE K F ia σ H fun v H1 => ∃ S μ x, Good K S μ H1 ∧ Seen K S μ H1 x v ∧ (∀ i, x ≠ .ref i) ∧ ∀ H2, Good K S μ H2 → Evo S μ H1 S μ H2 → Q (.bl (tys.any (isTy x))) H2 := by
  obtain ⟨ρ, S, μ, d, S', g, r, q, k⟩ := h
  simp only [ev] at q
  split at q
  · rename_i x S1 ea
    split at q
    · rename_i x' sx
      cases q
      exact ⟨ρ, S, μ, x, _, g, r, ea, fun v μ1 H1 g1 e1 rv => ⟨_, μ1, x', g1, see_ok g1 rv sx, see_noref sx, fun H2 g2 e2 => k _ _ _ g2 (e1.trans e2) rfl⟩⟩
    · cases q
  · cases q
theorem seen_mono {K : PySem.W.Frag} {S : Sto} {μ : Mu} {H H' : Hp} (g : Good K S μ H) (e : Evo S μ H S μ H') (hw : ∀ (i : Nat) (xs : List D) (a : Addr), S[i]? = some (some xs) → μ.ps[i]? = some a → H' a = H a) {x : D} {v : V} (h : Seen K S μ H x v) : Seen K S μ H' x v := by
  cases x with
  | lst xs =>
    obtain ⟨a, vs, e1, q, r⟩ := h
    refine ⟨a, vs, e1, ?_, r.mono g e.w⟩
    rcases q with (q | ⟨o, q⟩) | q
    · by_cases l : Live S μ a
      · rcases l with ⟨i, ys, e2, m⟩ | l
        · exact .inl (.inl (by rw [hw i ys a e2 m]; exact q))
        · exact .inl (.inl (e.hold a _ l q))
      · exact .inl (.inl (e.w.old a _ q l).1)
    · refine .inl (.inr ⟨o, (e.w.old a _ q (g.notLive fun ws z => ?_)).1⟩)
      rw [q] at z; cases z
      exact notPl_frz
    · exact .inr q
  | non => exact Rep.mono g e.w h
  | bl _ => exact Rep.mono g e.w h
  | int _ => exact Rep.mono g e.w h
  | str _ => exact Rep.mono g e.w h
  | tup _ => exact Rep.mono g e.w h
  | ref _ => exact Rep.mono g e.w h
  | cl _ _ => exact False.elim h
  | dct => exact Rep.mono g e.w h
theorem i_is1 {t : Ty} {p : Pos} {tn : Expr} (hg : Gl X "isinstance") (hm : X.mg "isinstance" = none) (ha : PE X a (tE X.K F ia)) (ht : TyOk X tn t)
    (he : starEach [a, tn] X.env = (false, eval a X.env) :: starEach [tn] X.env := by rfl) (h2 : starEach [tn] X.env = (false, eval tn X.env) :: starEach [] X.env := by rfl) (hpl : (backTo pos (starEach [tn] X.env)).any (·.1) = false := by rfl) :
    PE X (.Call (.Name "isinstance" p) [a, tn] [] pos) (tE X.K F (.isi ia [t])) :=
  PE.weak (pe_callB (r := rIsO X.K [t] true) call_isO hg hm PyProof.Rows.boot_isinstance (pa_cons ha (pa_cons ht.pe pa_nil h2) he) (by decide) (by decide) he hpl) fun σ H Q h => by
    obtain ⟨ρ, S, μ, d, S', g, r, q, k⟩ := is_read h
    exact ⟨ρ, S, μ, d, S', g, r, q, fun v μ' H' g' e' rv => by
      obtain ⟨S2, μ2, x, g2, hx, nr, kk⟩ := k v μ' H' g' e' rv
      exact ⟨S2, μ2, x, v, g2, hx, nr, .inl ⟨rfl, t, rfl, rfl⟩, kk H' g2 (Evo.refl _ _ _)⟩⟩
/-- isinstance(x, (T1, T2, ..)) -/
structure TysOk (X : Cx) (es : List Expr) (ts : List Ty) : Prop where
  pa : PA X es (fun _ H Q => Q (ts.map fun t => V.ty (tyS t)) H)
theorem tys_nil : TysOk X [] [] := ⟨pa_nil⟩
theorem tys_cons {t : Ty} {ts : List Ty} (h : TyOk X a t) (hr : TysOk X es ts) (hs : starEach (a :: es) X.env = (false, eval a X.env) :: starEach es X.env := by rfl) : TysOk X (a :: es) (t :: ts) := ⟨pa_cons h.pe hr.pa hs⟩
theorem i_isT {ts : List Ty} {p pt : Pos} {kt : Nat} {tes : List Expr} (hz : ts.length ≤ 20) (hg : Gl X "isinstance") (hm : X.mg "isinstance" = none) (ha : PE X a (tE X.K F ia)) (ht : TysOk X tes ts)
    (he : starEach [a, .Tuple tes kt pt] X.env = (false, eval a X.env) :: starEach [.Tuple tes kt pt] X.env := by rfl) (h2 : starEach [.Tuple tes kt pt] X.env = (false, eval (.Tuple tes kt pt) X.env) :: starEach [] X.env := by rfl) (hpl : (backTo pos (starEach [.Tuple tes kt pt] X.env)).any (·.1) = false := by rfl) :
    PE X (.Call (.Name "isinstance" p) [a, .Tuple tes kt pt] [] pos) (tE X.K F (.isi ia ts)) :=
  PE.weak (pe_callB (r := rIsO X.K ts false) call_isO hg hm PyProof.Rows.boot_isinstance (pa_cons ha (pa_cons (pe_tup ht.pa) pa_nil h2) he) (by decide) (by decide) he hpl) fun σ H Q h => by
    obtain ⟨ρ, S, μ, d, S', g, r, q, k⟩ := is_read h
    refine ⟨ρ, S, μ, d, S', g, r, q, fun v μ' H' g' e' rv => ?_⟩
    obtain ⟨S2, μ2, x, g2, hx, nr, kk⟩ := k v μ' H' g' e' rv
    refine ⟨by rw [List.length_map, sizeLine_eq]; omega, fun pp hp => ?_⟩
    have ev := evo_new (o := .tup (ts.map fun t => V.ty (tyS t))) g2 hp
    refine ⟨S2, μ2, x, v, good_new g2 hp, seen_mono g2 ev (fun i xs b e1 m => upd_ne fun z => ?_) hx, nr, .inr ⟨rfl, pp, rfl, upd_same⟩, kk _ (good_new g2 hp) ev⟩
    subst z
    exact g2.none_notLive hp (.inl ⟨i, xs, e1, m⟩)

theorem tA_nil {K : PySem.W.Frag} {ρ : Env} {S : Sto} : evs F .nil ρ S = some ([], S) := by simp only [evs]
def ME.txt : ME → Bool
  | .join => true
  | .lower => true
  | .isalpha => true
  | .isalnum => true
  | .split => true
  | _ => false
theorem me_read {K : PySem.W.Frag} {m : ME} {T : String} {σ : L2.St} {H : Hp} {Q : VK} (hT : T = if m.txt = true then "str" else "list") : tE K F (.meth m ia ies) σ H Q →
    tE K F ia σ H fun x H1 => tyV K T x H1 ∧ tA K F ies σ H1 fun vs H2 => rMe K m x vs H2 Q := fun ⟨ρ, S, μ, d, S', g, r, q, k⟩ => by
  simp only [ev] at q
  split at q
  · cases q
  · rename_i o S1 ea
    split at q
    case isFalse => cases q
    rename_i hsee
    split at q
    · cases q
    · rename_i xs S2 eb
      refine ⟨ρ, S, μ, o, S1, g, r, ea, fun v μ1 H1 g1 e1 rv => ⟨?_, ρ, S1, μ1, xs, S2, g1, r.mono g e1.w, eb, fun vs μ2 H2 g2 e2 rvs => ⟨S2, μ2, o, xs, S', d, g2, rv.mono g1 e2.w, rvs, q, fun v' μ' H' g3 e3 rz => k v' μ' H' g3 ((e1.trans e2).trans e3) rz⟩⟩⟩
      by_cases hj : m.txt = true
      · rw [if_pos hj] at hT
        subst hT
        have hs : ∃ x, o = .str x := by
          unfold meD at q
          split at q <;> first | (cases q; done) | (exact ⟨_, rfl⟩) | (cases hj; done)
        obtain ⟨x, rfl⟩ := hs
        cases (show v = V.str x from rv)
        rfl
      · rw [if_neg hj] at hT
        subst hT
        cases o with
        | ref i =>
          obtain ⟨a, rfl, ma⟩ := rv
          cases hS : S1[i]? with
          | none => exact absurd ma (by rw [List.getElem?_eq_none (by rw [g1.len]; exact List.getElem?_eq_none_iff.mp hS)]; intro z; cases z)
          | some oo =>
            cases oo with
            | none => simp [see, hS] at hsee
            | some ys =>
              obtain ⟨b, oo, mb, hb, r0⟩ := g1.at_ i ys hS
              rw [ma] at mb; cases mb
              have no : isObj ys = false := by
                cases hq : isObj ys with
                | false => rfl
                | true => rw [see, hS] at hsee; simp [hq] at hsee
              obtain ⟨ws, rfl, _⟩ := Obs.ls no r0
              exact .inl ⟨rfl, ws, SqL.of hb⟩
        | lst ys =>
          obtain ⟨a, vs, rfl, qa, _⟩ := rv.lsR
          exact .inl ⟨rfl, vs, qa.l⟩
        | _ => unfold meD at q; cases m <;> first | (exact absurd rfl hj) | (simp at q)
/-- what a method's name stands for -/
structure MeF (m : ME) (T : String) (name : Str) (id : String) : Prop where
  pa : PlainAttrs T
  slot : Slot T name id
  ty : typeOf (.builtin id) = pure (.type "method_descriptor")
  id_ : meId m = id
  t : T = if m.txt = true then "str" else "list"
theorem mf_append : MeF .append "list" "append" "list.append" := ⟨PySem.F.plainAttrs_list, PySem.F.slot_list_append, PySem.F.type_list_append, rfl, rfl⟩
theorem mf_extend : MeF .extend "list" "extend" "list.extend" := ⟨PySem.F.plainAttrs_list, PySem.F.slot_list_extend, PySem.F.type_list_extend, rfl, rfl⟩
theorem mf_pop : MeF .pop "list" "pop" "list.pop" := ⟨PySem.F.plainAttrs_list, PySem.F.slot_list_pop, PySem.F.type_list_pop, rfl, rfl⟩
theorem mf_popAt : MeF .popAt "list" "pop" "list.pop" := ⟨PySem.F.plainAttrs_list, PySem.F.slot_list_pop, PySem.F.type_list_pop, rfl, rfl⟩
theorem mf_join : MeF .join "str" "join" "str.join" := ⟨PySem.F.plainAttrs_str, PySem.F.slot_str_join, PySem.F.type_str_join, rfl, rfl⟩
theorem mf_lower : MeF .lower "str" "lower" "str.lower" := ⟨PySem.F.plainAttrs_str, PySem.F.slot_str_lower, PySem.F.type_str_lower, rfl, rfl⟩
theorem mf_isalpha : MeF .isalpha "str" "isalpha" "str.isalpha" := ⟨PySem.F.plainAttrs_str, PySem.F.slot_str_isalpha, PySem.F.type_str_isalpha, rfl, rfl⟩
theorem mf_isalnum : MeF .isalnum "str" "isalnum" "str.isalnum" := ⟨PySem.F.plainAttrs_str, PySem.F.slot_str_isalnum, PySem.F.type_str_isalnum, rfl, rfl⟩
theorem mf_split : MeF .split "str" "split" "str.split" := ⟨PySem.F.plainAttrs_str, PySem.F.slot_str_split, PySem.F.type_str_split, rfl, rfl⟩
theorem mf_index : MeF .index "list" "index" "list.index" := ⟨PySem.F.plainAttrs_list, PySem.F.slot_list_index, PySem.F.type_list_index, rfl, rfl⟩
theorem i_me0 {o : Expr} {m : ME} {T : String} {name : Str} {id : String} {apos : Pos} (M : MeF m T name id) (ho : PE X o (tE X.K F ia)) (hbase : attributeBase o name X.env (eval o X.env) = eval o X.env := by rfl) (hline : (apos.endLine == pos.line) = true := by rfl) :
    PE X (.Call (.Attribute o name apos) [] [] pos) (tE X.K F (.meth m ia .nil)) :=
  PE.weak (pe_bm0 (r := rMe X.K m) M.pa M.slot M.ty (by rw [← M.id_]; exact me_run m) ho hbase hline) fun σ H Q h => by
    obtain ⟨ρ, S, μ, d, S', g, r, q, k⟩ := me_read M.t h
    exact ⟨ρ, S, μ, d, S', g, r, q, fun v μ' H' g' e' rv => by
      obtain ⟨h1, ρ2, S2, μ2, xs, S3, g2, r2, q2, k2⟩ := k v μ' H' g' e' rv
      simp only [evs] at q2
      cases q2
      exact ⟨h1, k2 [] μ2 H' g2 (Evo.refl _ _ _) rfl⟩⟩
theorem i_me {o : Expr} {m : ME} {T : String} {name : Str} {id : String} {apos : Pos} (M : MeF m T name id) (ho : PE X o (tE X.K F ia)) (ha : PA X (e :: es) (tA X.K F ies)) (hbase : attributeBase o name X.env (eval o X.env) = eval o X.env := by rfl)
    (hfew : ((backTo pos (starEach (e :: es) X.env)).all (fun x => !x.1) && (backToKw pos (keywordEach [] X.env)).all (fun x => x.1.isSome)
      && decide ((e :: es).length + ([] : List Keyword).length + (if ([] : List Keyword).isEmpty then 0 else 1) < 30)) = true := by rfl)
    (hline : (apos.endLine == pos.line) = true := by rfl) (hs : starEach (e :: es) X.env = (false, eval e X.env) :: starEach es X.env := by rfl) (hplain : (backTo pos (starEach es X.env)).any (·.1) = false := by rfl) :
    PE X (.Call (.Attribute o name apos) (e :: es) [] pos) (tE X.K F (.meth m ia ies)) :=
  PE.weak (pe_bm (r := rMe X.K m) M.pa M.slot M.ty (by rw [← M.id_]; exact me_run m) ho ha hbase hfew hline hs hplain) fun σ H Q h => me_read M.t h
end

section
variable {X : Cx} {F : CF} {a b c e : Expr} {es : List Expr} {ia ib ic ie : E} {ies : Es} {pos : Pos}
def slotsT : Tg → List Nat
  | .n i => [i]
  | .t is => is
/-- a target's reading -/
def gT (K : PySem.W.Frag) (t : Tg) : TG := fun v σ H Q => ∃ (d : D) (ρ ρ' : Env) (S : Sto) (μ : Mu), Good K S μ H ∧ RelS K S μ H ρ σ ∧ Rep K S μ H d v ∧ setT t d ρ = some ρ' ∧
  ∀ σ', RelS K S μ H ρ' σ' → σ'.length = σ.length → (∀ j, j ∉ slotsT t → σ'[j]? = σ[j]?) → Q σ' H
theorem PG.weak {tg : Expr} {t t' : TG} (h : PG X tg t) (k : ∀ v σ H Q, t' v σ H Q → t v σ H Q) : PG X tg t' := ⟨fun pins s σ H v u Q I r q => h.run pins s σ H v u Q I r (k v σ H Q q)⟩
theorem g_n {i : Nat} {x : Str} (ok : Cok X) (hi : X.N[i]? = some x) (hx : Loc X.env.scope x) (hf : X.fn x = true ∨ X.env.scope.names.lookup x = some .local := by first | exact .inl rfl | exact .inr rfl | assumption) : PG X (.Name x pos) (gT X.K (.n i)) :=
  PG.weak (pg_name ok.nd hi hx hf) fun v σ H Q ⟨d, ρ, ρ', S, μ, g, r, rv, st, k⟩ => by
    cases st
    exact k _ (r.set i rv) (by rw [List.length_set]) fun j hj => List.getElem?_set_ne (by intro z; exact hj (by simp [slotsT, z]))
/-- several names -/
inductive Names (X : Cx) : List Expr → List Nat → Prop where
  | nil : Names X [] []
  | cons {i : Nat} {x : Str} {p : Pos} {es : List Expr} {is : List Nat} (hi : X.N[i]? = some x) (hx : Loc X.env.scope x) (hf : X.fn x = true ∨ X.env.scope.names.lookup x = some .local) (t : Names X es is) : Names X (.Name x p :: es) (i :: is)
def gNames : List Nat → TGs
  | [] => gNil
  | i :: is => gCons (gName i) (gNames is)
theorem pgs_names (nd : X.N.Nodup) : ∀ {es : List Expr} {is : List Nat}, Names X es is → PGs X es (gNames is)
  | _, _, .nil => pgs_nil
  | _, _, .cons hi hx hf t => pgs_cons (pg_name nd hi hx hf) (pgs_names nd t)
theorem names_read {K : PySem.W.Frag} {S : Sto} {μ : Mu} {H : Hp} {Q : L2.St → Hp → Prop} : ∀ (is : List Nat) (ds : List D) (vs : List V) (ρ : Env) (σ : L2.St), ds.length = is.length → Reps K S μ H ds vs → RelS K S μ H ρ σ →
    (∀ σ', RelS K S μ H ((is.zip ds).foldl (fun r p => r.set p.1 (some p.2)) ρ) σ' → σ'.length = σ.length → (∀ j, j ∉ is → σ'[j]? = σ[j]?) → Q σ' H) → gNames is vs σ H Q
  | [], [], vs, ρ, σ, _, rv, r, k => by
    cases (show vs = [] from rv)
    exact ⟨rfl, k σ r rfl fun _ _ => rfl⟩
  | [], _ :: _, _, _, _, h, _, _, _ => by cases h
  | _ :: _, [], _, _, _, h, _, _, _ => by cases h
  | i :: is, d :: ds, vs, ρ, σ, h, rv, r, k => by
    obtain ⟨v, ws, rfl, h1, h2⟩ := rv
    refine ⟨v, ws, rfl, names_read is ds ws (ρ.set i (some d)) (σ.set i (some v)) (by simpa using h) h2 (r.set i h1) fun σ' r' l' n' => k σ' r' (by rw [l', List.length_set]) fun j hj => ?_⟩
    rw [n' j fun z => hj (List.mem_cons_of_mem _ z), List.getElem?_set_ne]
    intro z
    exact hj (by rw [z]; exact List.mem_cons_self)
theorem names_each : ∀ {es : List Expr} {is : List Nat}, Names X es is → (assignEach es X.env).length = is.length ∧ (assignEach es X.env).findIdx? (·.1) = none
  | _, _, .nil => ⟨rfl, rfl⟩
  | _, _, .cons (x := x) (p := p) (es := es) hi hx hf t => by
    obtain ⟨h1, h2⟩ := names_each t
    have e : assignEach (.Name x p :: es) X.env = (false, assign (.Name x p) X.env) :: assignEach es X.env := rfl
    rw [e]
    refine ⟨by rw [List.length_cons, List.length_cons, h1], ?_⟩
    rw [List.findIdx?_cons, h2]
    rfl
theorem g_t {is : List Nat} {k : Nat} (ok : Cok X) (N : Names X es is) : PG X (.Tuple es k pos) (gT X.K (.t is)) := by
  have ht : PG X (.Tuple es k pos) _ := pg_tup (n := is.length) ok.calm (pgs_names ok.nd N) (names_each N).1 (names_each N).2
  have hl : PG X (.Tuple es k pos) _ := pg_lst (n := is.length) ok.calm (pgs_names ok.nd N) (names_each N).1 (names_each N).2
  refine ⟨fun pins s σ H v u Q I r ⟨d, ρ, ρ', S, μ, g, re, rv, st, kk⟩ => ?_⟩
  cases d with
  | tup ds =>
    simp only [setT] at st
    split at st
    · rename_i hz
      cases st
      obtain ⟨a, vs, rfl, q, rr⟩ := rv
      exact ht.run pins s σ H _ u Q I r ⟨a, vs, rfl, q, by rw [← rr.length]; exact hz, names_read is ds vs ρ σ hz rr re kk⟩
    · cases st
  | lst ds =>
    simp only [setT] at st
    split at st
    · rename_i hz
      cases st
      obtain ⟨a, vs, rfl, q, rr⟩ := rv
      exact hl.run pins s σ H _ u Q I r ⟨a, vs, rfl, SqP.l (q.elim (fun z => .inl z.1) .inr), by rw [← rr.length]; exact hz, names_read is ds vs ρ σ hz rr re kk⟩
    · cases st
  | _ => cases st
end
end Iv

set_option Elab.async false
set_option linter.all false
set_option maxRecDepth 100000
set_option maxHeartbeats 1000000
namespace Iv
open PySem PySem.Spec PyProof.Rows L2

/-- a tuple at a beside a list at b -/
def ItM (K : PySem.W.Frag) (a b : Addr) : It :=
  ⟨fun i H => ∃ (xs ys : List V) (x y : V), SqT K H a xs ∧ SqL K H b ys ∧ xs[i]? = some x ∧ ys[i]? = some y,
   fun i H v H' => ∃ T x y, v = .ref T ∧ H T = none ∧ H' = upd H T (.tup [x, y]) ∧ (∀ xs, SqT K H a xs → xs[i]? = some x) ∧ (∀ ys, SqL K H b ys → ys[i]? = some y),
   fun i H => ∃ xs ys : List V, SqT K H a xs ∧ SqL K H b ys ∧ i ≤ xs.length ∧ i ≤ ys.length ∧ (i = xs.length ∨ i = ys.length)⟩
/-- how the zip stands behind i turns -/
def StM (z TI TO i1 i2 a b : Addr) (i : Nat) (h : Heap) : Prop := IsZip h z TI TO .none ∧ IsTupOf2 h TI (.ref i1) (.ref i2) ∧ (∃ x y, IsTupOf2 h TO x y) ∧ h.IsTupleIter i1 a i ∧ h.IsListIter i2 b i
theorem cases5 {c z TI TO i1 i2 : Addr} {P : Addr → Prop} (h : c ∈ [z, TI, TO, i1, i2]) (p1 : P z) (p2 : P TI) (p3 : P TO) (p4 : P i1) (p5 : P i2) : P c := by
  simp only [List.mem_cons, List.not_mem_nil, or_false] at h
  rcases h with rfl | rfl | rfl | rfl | rfl <;> assumption
theorem turnM {P : Program} {w : World} {K : PySem.W.Frag} {elts : List Expr} {kk : Nat} {tpos : Pos} {a b z TI TO i1 i2 : Addr} (D : ZipSep2 z TI TO i1 i2 [i1, a] [i2, b]) :
    Turn P w K (.Tuple elts kk tpos) (ItM K a b) [z, TI, TO, i1, i2] z (StM z TI TO i1 i2 a b) where
  mem := List.mem_cons_self
  obj := fun i h ⟨hz, hTI, ⟨x, y, hTO⟩, ⟨o1, e1, _, d1⟩, ⟨o2, e2, _, d2⟩⟩ c hc =>
    cases5 (P := fun c => ∃ o, h.get? c = some o ∧ ∀ v, o.data ≠ .cell v) hc ⟨_, hz, fun v q => nomatch q⟩ ⟨_, hTI, fun v q => nomatch q⟩ ⟨_, hTO, fun v q => nomatch q⟩ ⟨o1, e1, fun v q => by rw [d1] at q; cases q⟩ ⟨o2, e2, fun v q => by rw [d2] at q; cases q⟩
  keep := fun i h h' ⟨hz, hTI, ⟨x, y, hTO⟩, h1, h2⟩ k =>
    ⟨k z (by simp) _ hz, k TI (by simp) _ hTI, ⟨x, y, k TO (by simp) _ hTO⟩, h1.at fun o q => k i1 (by simp) o q, h2.at fun o q => k i2 (by simp) o q⟩
  item := by
    intro X hP hw hK hc i pins s σ H E I hf ⟨hz, hTI, ⟨x0, y0, hTO⟩, h1, h2⟩ ⟨xs, ys, x, y, qx, qy, hx, hy⟩
    subst hP hw hK
    obtain ⟨its, rv, p, _⟩ := I.tuple qx
    obtain ⟨its2, rv2, p2, _⟩ := I.list qy
    obtain ⟨u, hu, ru⟩ := rv.get hx
    obtain ⟨u2, hu2, ru2⟩ := rv2.get hy
    have lt1 : i < its.toArray.size := by rw [List.size_toArray]; exact (List.getElem?_eq_some_iff.mp hu).1
    have lt2 : i < its2.toArray.size := by rw [List.size_toArray]; exact (List.getElem?_eq_some_iff.mp hu2).1
    have zl : z < s.heap.objs.size := Heap.lt_size hz
    have na : a ≠ i1 := fun q => by
      subst q
      obtain ⟨o, e, c1, _⟩ := h1
      obtain ⟨o2, e2, c2, _⟩ := p
      rw [e] at e2; cases e2
      rw [c1] at c2
      injection c2 with c3
      exact absurd c3 (by decide)
    have nb : b ≠ i2 := fun q => by
      subst q
      obtain ⟨o, e, c1, _⟩ := h2
      obtain ⟨o2, e2, c2, _⟩ := p2.isList
      rw [e] at e2; cases e2
      rw [c1] at c2
      injection c2 with c3
      exact absurd c3 (by decide)
    refine wpAny_pyNext_zipD2_item D (Draws.tuple (A := X.A.in1) (I.ok.hd hc) i1 a na its.toArray) (Draws.list (A := X.A.in1) (I.ok.hd hc) i2 b nb its2.toArray) hz hTI hTO ⟨h1, p⟩ ⟨h2, p2.isList⟩ lt1 lt2 fun y1 y2 h' tk hy1 hy2 z' TO' st1 st2 hT hsz hk => ?_
    have ey1 : u = y1 := by
      rw [List.getElem?_toArray] at hy1
      rw [hu] at hy1
      exact Option.some.inj hy1
    have ey2 : u2 = y2 := by
      rw [List.getElem?_toArray] at hy2
      rw [hu2] at hy2
      exact Option.some.inj hy2
    subst ey1 ey2
    refine ⟨_, rfl, wpAny_letOwnedTupleGo_zip (s := { s with heap := h', toks := tk }) z' fun h2' z2' sb => ?_⟩
    have hT2 : IsTupOf2 h2' s.heap.objs.size u u2 := (sb.2 _ (Nat.ne_of_gt zl)).trans hT
    have ok2 : ObjOk X.prog X.w (upd H s.heap.objs.size (.tup [x, y])) h2' s.heap.objs.size (.tup [x, y]) := ⟨(by decide : 2 ≤ sizeLine), [u, u2], .cons ru (.cons ru2 .nil), _, hT2, rfl, _, rfl⟩
    have J : Inv X pins σ (upd H s.heap.objs.size (.tup [x, y])) { s with heap := h2', toks := tk } :=
      I.turnedNew (t' := tk) (ch := [z, TI, TO, i1, i2]) (fun c o hb q => by
        simp only [List.mem_cons, List.not_mem_nil, or_false, not_or] at hb
        exact (sb.2 c hb.1).trans (hk c o hb.1 hb.2.2.1 hb.2.2.2.1 hb.2.2.2.2 q)) hf (Nat.le_refl _) ok2
    refine ⟨.ref s.heap.objs.size, _, J, rfl, ⟨_, x, y, rfl, I.hok.fresh (Nat.le_refl _), rfl, fun l hl => (I.tuple_inj hl qx) ▸ hx, fun l hl => (I.list_inj hl qy) ▸ hy⟩, ?_, fun c hc => ?_⟩
    · exact ⟨z2', (sb.2 _ D.TIz).trans (hk _ _ D.TIz D.TITO D.TIi1 D.TIi2 hTI), ⟨u, u2, (sb.2 _ D.TOz).trans TO'⟩, st1.1.at fun o q => (sb.2 _ D.zi1.symm).trans q, st2.1.at fun o q => (sb.2 _ D.zi2.symm).trans q⟩
    · have hlt : c < s.heap.objs.size := by
        obtain ⟨_, e1, _⟩ := h1
        obtain ⟨_, e2, _⟩ := h2
        exact cases5 (P := fun c => c < s.heap.objs.size) hc zl (Heap.lt_size hTI) (Heap.lt_size hTO) (Heap.lt_size e1) (Heap.lt_size e2)
      rw [upd_ne (Nat.ne_of_lt hlt)]
      exact (hf c hc).1
  done := by
    intro X hP hw hK hc i pins s σ H E I hf ⟨hz, hTI, ⟨x0, y0, hTO⟩, h1, h2⟩ ⟨xs, ys, qx, qy, l1, l2, he⟩
    subst hP hw hK
    obtain ⟨its, rv, p, _⟩ := I.tuple qx
    obtain ⟨its2, rv2, p2, _⟩ := I.list qy
    have n1 := rv.length
    have n2 := rv2.length
    have na : a ≠ i1 := fun q => by
      subst q
      obtain ⟨o, e, c1, _⟩ := h1
      obtain ⟨o2, e2, c2, _⟩ := p
      rw [e] at e2; cases e2
      rw [c1] at c2
      injection c2 with c3
      exact absurd c3 (by decide)
    have nb : b ≠ i2 := fun q => by
      subst q
      obtain ⟨o, e, c1, _⟩ := h2
      obtain ⟨o2, e2, c2, _⟩ := p2.isList
      rw [e] at e2; cases e2
      rw [c1] at c2
      injection c2 with c3
      exact absurd c3 (by decide)
    refine wpAny_pyNext_zipD2_end D (Draws.tuple (A := X.A.in1) (I.ok.hd hc) i1 a na its.toArray) (Draws.list (A := X.A.in1) (I.ok.hd hc) i2 b nb its2.toArray) hz hTI hTO ⟨h1, p⟩ ⟨h2, p2.isList⟩ (by rw [List.size_toArray]; omega) (by rw [List.size_toArray]; omega) (by rw [List.size_toArray, List.size_toArray]; omega) fun h' tk hk => ⟨rfl, ?_⟩
    exact I.turnedL (t' := tk) (ch := [z, TI, TO, i1, i2]) (fun c o hb q => by
      simp only [List.mem_cons, List.not_mem_nil, or_false, not_or] at hb
      exact hk c o hb.1 hb.2.2.1 hb.2.2.2.1 hb.2.2.2.2 q) hf
  self := fun A i s Q E st h => wpAny_pyIter_zip st.1 h
theorem neN {x y : Nat} (h : x ≠ y) : x ≠ y := h
theorem notin2 {x p q : Nat} (h1 : x ≠ p) (h2 : x ≠ q) : x ∉ [p, q] := fun h => by
  rcases List.mem_cons.mp h with z | z
  · exact h1 z
  · exact h2 (List.mem_singleton.mp z)
theorem sep5 {n a b : Nat} (la : a < n) (lb : b < n) : ZipSep2 (n + 4) (n + 2) (n + 3) n (n + 1) [n, a] [n + 1, b] where
  TIz := neN (by omega)
  TOz := neN (by omega)
  TITO := neN (by omega)
  TIi1 := neN (by omega)
  mem1 := List.mem_cons_self
  zf1 := notin2 (by omega) (by omega)
  Tf1 := notin2 (by omega) (by omega)
  TIi2 := neN (by omega)
  mem2 := List.mem_cons_self
  zf2 := notin2 (by omega) (by omega)
  Tf2 := notin2 (by omega) (by omega)
  sep1_2 := notin2 (by omega) (by omega)
  sep2_1 := notin2 (by omega) (by omega)
def iZipM (K : PySem.W.Frag) (ta : TA) : TI := fun σ H R => ta σ H fun vs H1 => ∃ a b xs ys, vs = [.ref a, .ref b] ∧ SqT K H1 a xs ∧ SqL K H1 b ys ∧ R (ItM K a b) H1
theorem pi_zipM {X : Cx} {e e2 : Expr} {ta : TA} {p pos tpos : Pos} {elts : List Expr} {kk : Nat} (hg : Gl X "zip") (hm : X.mg "zip" = none) (ha : PA X [e, e2] ta) (hs : starEach [e, e2] X.env = (false, eval e X.env) :: starEach [e2] X.env := by rfl)
    (hpl : (backTo pos (starEach [e2] X.env)).any (·.1) = false := by rfl) : PI X (.Tuple elts kk tpos) (.Call (.Name "zip" p) [e, e2] [] pos) (iZipM X.K ta) := by
  refine ⟨fun pins s σ H R I h => Call_ (ld_blt I hg hm PyProof.Rows.boot_zip (PyProof.Rows.callWith_type1 (thn (ha.run pos pins s σ H _ I h) fun us s1 ⟨vs, H1, J, r1, q1⟩ => ?_) hs hpl))⟩
  obtain ⟨a, b, xs, ys, rfl, qx, qy, q⟩ := q1
  cases r1 with
  | cons ra rr => cases rr with
    | cons rb rr =>
      cases rr; cases ra; cases rb
      obtain ⟨its, rv, p1, _⟩ := J.tuple qx
      obtain ⟨its2, rv2, p2, _⟩ := J.list qy
      have la : a < s1.heap.objs.size := by obtain ⟨o, e, _⟩ := id p1; exact Heap.lt_size e
      have lb : b < s1.heap.objs.size := p2.lt
      refine zip_begins2 (begins_tuple a its.toArray) (begins_list b its2.toArray) p1 p2.isList fun h' hz hTI hTO g1 g2 hsz hk => wpAny_pyIter_zip hz ?_
      have J2 : Inv X pins σ H1 { s1 with heap := h' } := J.kept (t' := s1.toks) hk
      have h1 : h'.IsTupleIter s1.heap.objs.size a 0 := ⟨_, g1, rfl, rfl⟩
      have h2 : h'.IsListIter (s1.heap.objs.size + 1) b 0 := ⟨_, g2, rfl, rfl⟩
      have fr : ∀ c, s1.heap.objs.size ≤ c → FpOk X pins H1 c := fun c hc => J.fpOk hc (J.hok.fresh hc)
      exact ⟨s1.heap.objs.size + 4, _, _, _, H1, rfl, J2, turnM (sep5 la lb), ⟨hz, hTI, ⟨_, _, hTO⟩, h1, h2⟩, fun c hc => cases5 (P := FpOk X pins H1) hc (fr _ (by omega)) (fr _ (by omega)) (fr _ (by omega)) (fr _ (by omega)) (fr _ (by omega)), q⟩
end Iv

set_option Elab.async false
set_option linter.all false
set_option maxRecDepth 100000
set_option maxHeartbeats 1000000
namespace Iv
open PySem PySem.Spec PyProof.Rows L2

/-- J walks xs -/
def Walk (K : PySem.W.Frag) (S0 : Sto) (μ0 : Mu) (H0 : Hp) (J : It) (xs : List D) : Prop := ∀ (S : Sto) (μ : Mu) (H : Hp), Good K S μ H → EvoW S0 μ0 H0 S μ H →
  (∀ i, i < xs.length → J.go i H) ∧ J.stop xs.length H ∧ ∀ i v H', i < xs.length → J.yld i H v H' → ∃ d, xs[i]? = some d ∧ Good K S μ H' ∧ Evo S μ H S μ H' ∧ Rep K S μ H' d v
def tI (K : PySem.W.Frag) (F : CF) (ie : E) : TI := fun σ H R => ∃ (ρ : Env) (S : Sto) (μ : Mu) (d : D) (S' : Sto) (xs : List D), Good K S μ H ∧ RelS K S μ H ρ σ ∧ ev F ie ρ S = some (d, S') ∧ items d = some xs ∧
  ∀ J μ' H', Good K S' μ' H' → Evo S μ H S' μ' H' → Walk K S' μ' H' J xs → R J H'

theorem walk_list {K : PySem.W.Frag} {S : Sto} {μ : Mu} {H : Hp} {a : Addr} {vs : List V} {xs : List D} (g : Good K S μ H) (q : (Rd H a (.lst vs) ∧ ¬ Live S μ a) ∨ KL K a vs) (r : Reps K S μ H xs vs) : Walk K S μ H (Itl K a) xs := fun S' μ' H' g' e' => by
  have q' : SqL K H' a vs := by
    rcases q with q | q
    · exact .inl (rdL e' q.1 q.2).1
    · exact SqP.l (.inr q)
  have r' := r.mono g e'
  refine ⟨fun i hi => ?_, ⟨vs, q', by rw [r.length]; exact Nat.le_refl _⟩, fun i v H2 hi y => ?_⟩
  · obtain ⟨v, hv, _⟩ := r.get (List.getElem?_eq_getElem hi)
    exact ⟨vs, v, q', hv⟩
  · obtain ⟨rfl, y⟩ := y
    obtain ⟨w, hw, rw'⟩ := r'.get (List.getElem?_eq_getElem hi)
    have := y vs q'
    rw [hw] at this
    cases this
    exact ⟨_, List.getElem?_eq_getElem hi, g', Evo.refl _ _ _, rw'⟩
theorem walk_tup {K : PySem.W.Frag} {S : Sto} {μ : Mu} {H : Hp} {a : Addr} {vs : List V} {xs : List D} (g : Good K S μ H) (q : SqT K H a vs) (r : Reps K S μ H xs vs) : Walk K S μ H (Itt K a) xs := fun S' μ' H' g' e' => by
  have q' : SqT K H' a vs := sqT_mono g e' q
  have r' := r.mono g e'
  refine ⟨fun i hi => ?_, ⟨vs, q', by rw [r.length]; exact Nat.le_refl _⟩, fun i v H2 hi y => ?_⟩
  · obtain ⟨v, hv, _⟩ := r.get (List.getElem?_eq_getElem hi)
    exact ⟨vs, v, q', hv⟩
  · obtain ⟨rfl, y⟩ := y
    obtain ⟨w, hw, rw'⟩ := r'.get (List.getElem?_eq_getElem hi)
    have := y vs q'
    rw [hw] at this
    cases this
    exact ⟨_, List.getElem?_eq_getElem hi, g', Evo.refl _ _ _, rw'⟩
theorem walk_str {K : PySem.W.Frag} {S : Sto} {μ : Mu} {H : Hp} {x : Str} : Walk K S μ H (Its x) (x.cps.toList.map fun c => .str ⟨#[c]⟩) := fun S' μ' H' g' e' => by
  have hl : (x.cps.toList.map fun c => D.str ⟨#[c]⟩).length = x.cps.size := by simp
  refine ⟨fun i hi => by rw [hl] at hi; exact hi, by rw [hl]; exact Nat.le_refl _, fun i v H2 hi y => ?_⟩
  obtain ⟨rfl, c, hc, rfl⟩ := y
  exact ⟨.str ⟨#[c]⟩, by rw [List.getElem?_map, Array.getElem?_toList, hc]; rfl, g', Evo.refl _ _ _, rfl⟩
theorem walk_rng {K : PySem.W.Frag} {S : Sto} {μ : Mu} {H : Hp} {lo : Int} {n : Nat} : Walk K S μ H (Itr lo n) ((List.range n).map fun (k : Nat) => .int (lo + k)) := fun S' μ' H' g' e' => by
  have hl : ((List.range n).map fun (k : Nat) => D.int (lo + k)).length = n := by simp
  refine ⟨fun i hi => by rw [hl] at hi; exact hi, by rw [hl]; exact Nat.le_refl _, fun i v H2 hi y => ?_⟩
  obtain ⟨rfl, rfl⟩ := y
  rw [hl] at hi
  exact ⟨.int (lo + i), by rw [List.getElem?_map, List.getElem?_range hi]; rfl, g', Evo.refl _ _ _, rfl⟩

section
variable {X : Cx} {F : CF} {a b c e tg : Expr} {es : List Expr} {ia ib ic ie : E} {ies : Es} {pos : Pos}
theorem PI.weak {X : Cx} {tg e : Expr} {t t' : TI} (h : PI X tg e t) (k : ∀ σ H R, t' σ H R → t σ H R) : PI X tg e t' := ⟨fun pins s σ H R I q => h.run pins s σ H R I (k σ H R q)⟩
/-- a list, a tuple, a text -/
theorem it_e (ha : PE X a (tE X.K F ia)) : PI X tg a (tI X.K F ia) := by
  refine ⟨fun pins s σ H R I ⟨ρ, S, μ, d, S', xs, g, r, q, hi, k⟩ => ?_⟩
  cases d with
  | lst ys =>
    cases hi
    refine (pi_list ha).run pins s σ H R I ⟨ρ, S, μ, _, S', g, r, q, fun v μ1 H1 g1 e1 rv => ?_⟩
    obtain ⟨p, vs, rfl, qa, ra⟩ := rv
    exact ⟨p, rfl, ⟨vs, SqP.l (qa.elim (fun z => .inl z.1) .inr)⟩, k _ _ _ g1 e1 (walk_list g1 qa ra)⟩
  | tup ys =>
    cases hi
    refine (pi_tup ha).run pins s σ H R I ⟨ρ, S, μ, _, S', g, r, q, fun v μ1 H1 g1 e1 rv => ?_⟩
    obtain ⟨p, vs, rfl, qa, ra⟩ := rv
    exact ⟨p, rfl, ⟨vs, qa⟩, k _ _ _ g1 e1 (walk_tup g1 qa ra)⟩
  | str x =>
    cases hi
    refine (pi_str ha).run pins s σ H R I ⟨ρ, S, μ, _, S', g, r, q, fun v μ1 H1 g1 e1 rv => ?_⟩
    exact ⟨x, rv, k _ _ _ g1 e1 walk_str⟩
  | _ => cases hi
theorem it_rng1 {p : Pos} (hg : Gl X "range") (hm : X.mg "range" = none) (ha : PE X a (tE X.K F ia)) (hs : starEach [a] X.env = [(false, eval a X.env)] := by rfl) : PI X tg (.Call (.Name "range" p) [a] [] pos) (tI X.K F (.rng (.c (.int 0)) ia)) :=
  PI.weak (pi_range1 hg hm (a_cons ha a_nil hs) hs) fun σ H R ⟨ρ, S, μ, d, S', xs, g, r, q, hi, k⟩ => by
    simp only [ev] at q
    split at q
    · rename_i j S2 eb
      split at q
      · rename_i hb
        cases q
        cases hi
        rw [Bool.and_eq_true, Bool.and_eq_true, Bool.and_eq_true, decide_eq_true_eq, decide_eq_true_eq, decide_eq_true_eq, decide_eq_true_eq] at hb
        refine ⟨ρ, S, μ, [.int j], S', g, r, by simp only [evs, eb], fun vs μ1 H1 g1 e1 rv => ?_⟩
        obtain ⟨v, rfl, hv⟩ := reps1 rv
        cases (show v = V.int j from hv)
        refine ⟨j, rfl, hb.1.2, hb.2, k _ μ1 H1 g1 e1 ?_⟩
        rw [Int.sub_zero]
        exact walk_rng
      · cases q
    · cases q
theorem it_rng2 {p : Pos} (hg : Gl X "range") (hm : X.mg "range" = none) (ha : PE X a (tE X.K F ia)) (hb : PE X b (tE X.K F ib)) (hs : starEach [a, b] X.env = [(false, eval a X.env), (false, eval b X.env)] := by rfl) (hs2 : starEach [b] X.env = [(false, eval b X.env)] := by rfl) :
    PI X tg (.Call (.Name "range" p) [a, b] [] pos) (tI X.K F (.rng ia ib)) :=
  PI.weak (pi_range2 hg hm (a_cons ha (a_cons hb a_nil hs2) (by rw [hs, hs2])) hs hs2) fun σ H R ⟨ρ, S, μ, d, S', xs, g, r, q, hi, k⟩ => by
    simp only [ev] at q
    split at q
    · rename_i i S1 ea
      split at q
      · rename_i j S2 eb
        split at q
        · rename_i hb
          cases q
          cases hi
          rw [Bool.and_eq_true, Bool.and_eq_true, Bool.and_eq_true, decide_eq_true_eq, decide_eq_true_eq, decide_eq_true_eq, decide_eq_true_eq] at hb
          refine ⟨ρ, S, μ, [.int i, .int j], S', g, r, by simp only [evs, ea, eb], fun vs μ1 H1 g1 e1 rv => ?_⟩
          obtain ⟨v, ws, rfl, hv, hw⟩ := rv
          obtain ⟨w, rfl, hw2⟩ := reps1 hw
          cases (show v = V.int i from hv)
          cases (show w = V.int j from hw2)
          exact ⟨i, j, rfl, ⟨hb.1.1.1, hb.1.1.2, hb.1.2, hb.2⟩, k _ μ1 H1 g1 e1 walk_rng⟩
        · cases q
      · cases q
    · cases q
/-- zip of two lists of one length -/
theorem walk_zip {K : PySem.W.Frag} {S : Sto} {μ : Mu} {H : Hp} {a b : Addr} {vs ws : List V} {xs ys : List D} (g : Good K S μ H) (q : (Rd H a (.lst vs) ∧ ¬ Live S μ a) ∨ KL K a vs) (r : Reps K S μ H xs vs) (q2 : (Rd H b (.lst ws) ∧ ¬ Live S μ b) ∨ KL K b ws) (r2 : Reps K S μ H ys ws)
    (hl : xs.length = ys.length) : Walk K S μ H (Itz K a b) ((xs.zip ys).map fun p => .tup [p.1, p.2]) := fun S' μ' H' g' e' => by
  have lst : ∀ {c : Addr} {us : List V}, (Rd H c (.lst us) ∧ ¬ Live S μ c) ∨ KL K c us → SqL K H' c us := fun q => by
    rcases q with q | q
    · exact .inl (rdL e' q.1 q.2).1
    · exact SqP.l (.inr q)
  have qa := lst q
  have qb := lst q2
  have ra := r.mono g e'
  have rb := r2.mono g e'
  have hz : ((xs.zip ys).map fun p => D.tup [p.1, p.2]).length = xs.length := by rw [List.length_map, List.length_zip]; omega
  refine ⟨fun i hi => ?_, ⟨vs, ws, qa, qb, .inl (by rw [hz, r.length]; exact Nat.le_refl _)⟩, fun i v H2 hi y => ?_⟩
  · rw [hz] at hi
    obtain ⟨v, hv, _⟩ := r.get (List.getElem?_eq_getElem hi)
    obtain ⟨w, hw, _⟩ := r2.get (List.getElem?_eq_getElem (show i < ys.length by omega))
    exact ⟨vs, ws, v, w, qa, qb, hv, hw⟩
  · rw [hz] at hi
    obtain ⟨T, x, y', rfl, hT, rfl, h1, h2⟩ := y
    have hi2 : i < ys.length := by omega
    obtain ⟨v, hv, rv⟩ := ra.get (List.getElem?_eq_getElem hi)
    obtain ⟨w, hw, rw'⟩ := rb.get (List.getElem?_eq_getElem hi2)
    have e1 := h1 vs qa
    have e2 := h2 ws qb
    rw [hv] at e1; cases e1
    rw [hw] at e2; cases e2
    refine ⟨.tup [xs[i], ys[i]], ?_, good_new g' hT, evo_new g' hT, rep_tup_new g' hT ⟨_, _, rfl, rv, _, _, rfl, rw', rfl⟩⟩
    rw [List.getElem?_map, List.getElem?_eq_getElem (by rw [List.length_zip]; omega), List.getElem_zip]
    rfl
theorem it_zip {elts : List Expr} {kk : Nat} {p tpos : Pos} (hg : Gl X "zip") (hm : X.mg "zip" = none) (ha : PE X a (tE X.K F ia)) (hb : PE X b (tE X.K F ib)) (hs : starEach [a, b] X.env = (false, eval a X.env) :: starEach [b] X.env := by rfl) (hs2 : starEach [b] X.env = (false, eval b X.env) :: starEach [] X.env := by rfl)
    (hpl : (backTo pos (starEach [b] X.env)).any (·.1) = false := by rfl) : PI X (.Tuple elts kk tpos) (.Call (.Name "zip" p) [a, b] [] pos) (tI X.K F (.zip ia ib)) :=
  PI.weak (pi_zip hg hm (a_cons ha (a_cons hb a_nil hs2) hs) hs hpl) fun σ H R ⟨ρ, S, μ, d, S', xs, g, r, q, hi, k⟩ => by
    simp only [ev] at q
    split at q
    · rename_i as S1 ea
      split at q
      · rename_i bs S2 eb
        split at q
        · rename_i hl
          cases q
          cases hi
          refine ⟨ρ, S, μ, [.lst as, .lst bs], S', g, r, by simp only [evs, ea, eb], fun vs μ1 H1 g1 e1 rv => ?_⟩
          obtain ⟨v, ws, rfl, hv, hw⟩ := rv
          obtain ⟨w, rfl, hw2⟩ := reps1 hw
          obtain ⟨p1, vs, rfl, qa, ra⟩ := hv
          obtain ⟨p2, ws, rfl, qb, rb⟩ := hw2
          exact ⟨p1, p2, vs, ws, rfl, SqP.l (qa.elim (fun z => .inl z.1) .inr), SqP.l (qb.elim (fun z => .inl z.1) .inr), k _ μ1 H1 g1 e1 (walk_zip g1 qa ra qb rb hl)⟩
        · cases q
      · cases q
    · cases q
theorem walk_zipT {K : PySem.W.Frag} {S : Sto} {μ : Mu} {H : Hp} {a b : Addr} {vs ws : List V} {xs ys : List D} (g : Good K S μ H) (q : SqT K H a vs) (r : Reps K S μ H xs vs) (q2 : (Rd H b (.lst ws) ∧ ¬ Live S μ b) ∨ KL K b ws) (r2 : Reps K S μ H ys ws)
    (hl : xs.length = ys.length) : Walk K S μ H (ItM K a b) ((xs.zip ys).map fun p => .tup [p.1, p.2]) := fun S' μ' H' g' e' => by
  have qa : SqT K H' a vs := sqT_mono g e' q
  have qb : SqL K H' b ws := by
    rcases q2 with q | q
    · exact .inl (rdL e' q.1 q.2).1
    · exact SqP.l (.inr q)
  have ra := r.mono g e'
  have rb := r2.mono g e'
  have hz : ((xs.zip ys).map fun p => D.tup [p.1, p.2]).length = xs.length := by rw [List.length_map, List.length_zip]; omega
  have lv := r.length
  have lw := r2.length
  refine ⟨fun i hi => ?_, ⟨vs, ws, qa, qb, by omega, by omega, .inl (by omega)⟩, fun i v H2 hi y => ?_⟩
  · rw [hz] at hi
    obtain ⟨v, hv, _⟩ := r.get (List.getElem?_eq_getElem hi)
    obtain ⟨w, hw, _⟩ := r2.get (List.getElem?_eq_getElem (show i < ys.length by omega))
    exact ⟨vs, ws, v, w, qa, qb, hv, hw⟩
  · rw [hz] at hi
    obtain ⟨T, x, y', rfl, hT, rfl, h1, h2⟩ := y
    have hi2 : i < ys.length := by omega
    obtain ⟨v, hv, rv⟩ := ra.get (List.getElem?_eq_getElem hi)
    obtain ⟨w, hw, rw'⟩ := rb.get (List.getElem?_eq_getElem hi2)
    have e1 := h1 vs qa
    have e2 := h2 ws qb
    rw [hv] at e1; cases e1
    rw [hw] at e2; cases e2
    refine ⟨.tup [xs[i], ys[i]], ?_, good_new g' hT, evo_new g' hT, rep_tup_new g' hT ⟨_, _, rfl, rv, _, _, rfl, rw', rfl⟩⟩
    rw [List.getElem?_map, List.getElem?_eq_getElem (by rw [List.length_zip]; omega), List.getElem_zip]
    rfl
theorem it_zipT {elts : List Expr} {kk : Nat} {p tpos : Pos} (hg : Gl X "zip") (hm : X.mg "zip" = none) (ha : PE X a (tE X.K F ia)) (hb : PE X b (tE X.K F ib)) (hs : starEach [a, b] X.env = (false, eval a X.env) :: starEach [b] X.env := by rfl) (hs2 : starEach [b] X.env = (false, eval b X.env) :: starEach [] X.env := by rfl)
    (hpl : (backTo pos (starEach [b] X.env)).any (·.1) = false := by rfl) : PI X (.Tuple elts kk tpos) (.Call (.Name "zip" p) [a, b] [] pos) (tI X.K F (.zipT ia ib)) :=
  PI.weak (pi_zipM hg hm (a_cons ha (a_cons hb a_nil hs2) hs) hs hpl) fun σ H R ⟨ρ, S, μ, d, S', xs, g, r, q, hi, k⟩ => by
    simp only [ev] at q
    split at q
    · rename_i as S1 ea
      split at q
      · rename_i bs S2 eb
        split at q
        · rename_i hl
          cases q
          cases hi
          refine ⟨ρ, S, μ, [.tup as, .lst bs], S', g, r, by simp only [evs, ea, eb], fun vs μ1 H1 g1 e1 rv => ?_⟩
          obtain ⟨v, ws, rfl, hv, hw⟩ := rv
          obtain ⟨w, rfl, hw2⟩ := reps1 hw
          obtain ⟨p1, vs, rfl, qa, ra⟩ := hv
          obtain ⟨p2, ws, rfl, qb, rb⟩ := hw2
          exact ⟨p1, p2, vs, ws, rfl, qa, SqP.l (qb.elim (fun z => .inl z.1) .inr), k _ μ1 H1 g1 e1 (walk_zipT g1 qa ra qb rb hl)⟩
        · cases q
      · cases q
    · cases q
theorem walk_enum {K : PySem.W.Frag} {S : Sto} {μ : Mu} {H : Hp} {a : Addr} {vs : List V} {xs : List D} (g : Good K S μ H) (q : (Rd H a (.lst vs) ∧ ¬ Live S μ a) ∨ KL K a vs) (r : Reps K S μ H xs vs) :
    Walk K S μ H (Ite K a) (((List.range xs.length).zip xs).map fun p => .tup [.int (p.1 : Nat), p.2]) := fun S' μ' H' g' e' => by
  have qa : SqL K H' a vs := by
    rcases q with q | q
    · exact .inl (rdL e' q.1 q.2).1
    · exact SqP.l (.inr q)
  have ra := r.mono g e'
  have hz : (((List.range xs.length).zip xs).map fun p => D.tup [.int (p.1 : Nat), p.2]).length = xs.length := by rw [List.length_map, List.length_zip, List.length_range]; omega
  refine ⟨fun i hi => ?_, ⟨vs, qa, by rw [hz, r.length]; exact Nat.le_refl _⟩, fun i v H2 hi y => ?_⟩
  · rw [hz] at hi
    obtain ⟨v, hv, _⟩ := r.get (List.getElem?_eq_getElem hi)
    exact ⟨vs, v, qa, hv⟩
  · rw [hz] at hi
    obtain ⟨T, x, rfl, hT, rfl, h1⟩ := y
    obtain ⟨v, hv, rv⟩ := ra.get (List.getElem?_eq_getElem hi)
    have e1 := h1 vs qa
    rw [hv] at e1; cases e1
    refine ⟨.tup [.int i, xs[i]], ?_, good_new g' hT, evo_new g' hT, rep_tup_new g' hT ⟨_, _, rfl, rfl, _, _, rfl, rv, rfl⟩⟩
    rw [List.getElem?_map, List.getElem?_eq_getElem (by rw [List.length_zip, List.length_range]; omega), List.getElem_zip, List.getElem_range]
    rfl
theorem it_enum {elts : List Expr} {kk : Nat} {p tpos : Pos} (hg : Gl X "enumerate") (hm : X.mg "enumerate" = none) (ha : PE X a (tE X.K F ia)) (hs : starEach [a] X.env = [(false, eval a X.env)] := by rfl) :
    PI X (.Tuple elts kk tpos) (.Call (.Name "enumerate" p) [a] [] pos) (tI X.K F (.enum ia)) :=
  PI.weak (pi_enum hg hm (a_cons ha a_nil hs) hs) fun σ H R ⟨ρ, S, μ, d, S', xs, g, r, q, hi, k⟩ => by
    simp only [ev] at q
    split at q
    · rename_i as S1 ea
      cases q
      cases hi
      refine ⟨ρ, S, μ, [.lst as], S', g, r, by simp only [evs, ea], fun vs μ1 H1 g1 e1 rv => ?_⟩
      obtain ⟨v, rfl, hv⟩ := reps1 rv
      obtain ⟨p1, vs, rfl, qa, ra⟩ := hv
      exact ⟨p1, vs, rfl, SqP.l (qa.elim (fun z => .inl z.1) .inr), k _ μ1 H1 g1 e1 (walk_enum g1 qa ra)⟩
    · cases q

theorem wipe_get {σ : L2.St} {j : Nat} : ∀ {vs : List Nat}, (wipe σ vs)[j]? = if j ∈ vs ∧ j < σ.length then some none else σ[j]?
  | [] => by simp [wipe]
  | v :: vs => by
    unfold wipe
    have ih := wipe_get (σ := σ) (j := j) (vs := vs)
    have hl := wipe_length σ vs
    by_cases hj : v = j
    · subst hj
      by_cases lt : v < σ.length
      · rw [List.getElem?_set_self (by rw [hl]; exact lt), if_pos ⟨List.mem_cons_self, lt⟩]
      · rw [List.getElem?_eq_none (by rw [List.length_set, hl]; omega), if_neg fun z => lt z.2, List.getElem?_eq_none (by omega)]
    · rw [List.getElem?_set_ne hj, ih]
      have : (j ∈ v :: vs ∧ j < σ.length) ↔ (j ∈ vs ∧ j < σ.length) := by
        rw [List.mem_cons]
        exact ⟨fun z => ⟨z.1.resolve_left fun q => hj q.symm, z.2⟩, fun z => ⟨.inr z.1, z.2⟩⟩
      simp only [this]
theorem wipe_eq {σ σ' : L2.St} {vs : List Nat} (hl : σ'.length = σ.length) (h : ∀ j, j ∉ vs → σ'[j]? = (wipe σ vs)[j]?) : wipe σ' vs = wipe σ vs := by
  apply List.ext_getElem?
  intro j
  rw [wipe_get, wipe_get, hl]
  by_cases c : j ∈ vs ∧ j < σ.length
  · rw [if_pos c, if_pos c]
  · rw [if_neg c, if_neg c]
    by_cases hj : j ∈ vs
    · have : ¬ j < σ.length := fun z => c ⟨hj, z⟩
      rw [List.getElem?_eq_none (by omega), List.getElem?_eq_none (by omega)]
    · rw [h j hj, wipe_get, if_neg fun z => hj z.1]
theorem rels_wipe {K : PySem.W.Frag} {S : Sto} {μ : Mu} {H : Hp} {ρ : Env} {σ : L2.St} : ∀ {t : Tg}, RelS K S μ H ρ σ → RelS K S μ H (wipeT t ρ) (wipe σ (slotsT t))
  | .n i, r => r.drop i
  | .t is, r => by
    show RelS K S μ H (is.foldr (fun i r => r.set i none) ρ) (wipe σ is)
    induction is with
    | nil => exact r
    | cons i is ih => exact ih.drop i
/-- one turn of a comprehension, by values -/
def StepOk (K : PySem.W.Frag) (ρ : Env) (t : Tg) (tt : TT) (te : TE) (f : D → Sto → Option (Option D × Sto)) : Prop := ∀ d S S' o, f d S = some (o, S') → ∃ ρ', setT t d (wipeT t ρ) = some ρ' ∧
  ∀ μ H σ2 (Y : V → Hp → Prop) (N : Hp → Prop), Good K S μ H → RelS K S μ H ρ' σ2 →
    (∀ μ' H', Good K S' μ' H' → Evo S μ H S' μ' H' → match o with | some y => ∀ v, Rep K S' μ' H' y v → Y v H' | none => N H') → tt σ2 H fun b H3 => if b = true then te σ2 H3 Y else N H3
theorem comp_read {K : PySem.W.Frag} {t : Tg} {tt : TT} {te : TE} {mt : Bool} {f : D → Sto → Option (Option D × Sto)} {σ : L2.St} {H : Hp} {Q : VK} {ρ : Env} {S S1 S2 S' : Sto} {μ : Mu} {x d : D} {xs ys : List D} (g : Good K S μ H) (r : RelS K S μ H ρ σ) (ea : ev F ia ρ S = some (x, S1)) (hx : items x = some xs)
    (hf : StepOk K ρ t tt te f) (er : compRun f xs [] S1 = some (ys, S2)) (em : mkList mt ys S2 = some (d, S')) (k : ContS K S μ H S' d Q) : tLc (tI K F ia) (gT K t) tt te (slotsT t) σ H Q := by
  refine ⟨ρ, S, μ, x, S1, xs, g, r, ea, hx, fun J μ1 H1 g1 e1 W L hD => ?_⟩
  have nD : L ∉ μ1.z := fun z => by
    obtain ⟨ws, q⟩ := g1.zl L z
    rw [hD] at q; cases q
  refine ⟨fun i m H2 => m = xs.length - i ∧ i ≤ xs.length ∧ ∃ (acc : List D) (vs : List V) (S2' : Sto) (μ2 : Mu), H2 L = some (.lst vs) ∧ μ2.z = L :: μ1.z ∧ Good K S2' μ2 H2 ∧ EvoW S1 μ1 H1 S2' μ2 H2 ∧ (∀ a ∈ μ1.z, ∀ o, H1 a = some o → H2 a = some o) ∧
      Reps K S2' μ2 H2 acc vs ∧ acc.length ≤ 100000 ∧ compRun f (xs.drop i) acc S2' = some (ys, S2),
    ⟨xs.length, by simp, Nat.zero_le _, [], [], S1, μ1.hold L, upd_same, rfl, good_begin g1 hD, evoW_begin g1 hD, fun a ha o q => by rw [upd_ne (ne_of_none q hD)]; exact q, rfl, by simp, er⟩, ?_⟩
  rintro i m H2 ⟨rfl, hi, acc, vs, S3, μ3, hL, hz, g3, e3, hh, ra, hal, ec⟩
  have hDz : L ∈ μ3.z := by rw [hz]; exact List.mem_cons_self
  obtain ⟨go, stop, yl⟩ := W S3 μ3 H2 g3 e3
  by_cases hlt : i < xs.length
  · refine .inr ⟨go i hlt, _, fun H' h' => ⟨xs.length - (i + 1), by omega, h'⟩, fun v H4 hy => ?_⟩
    obtain ⟨dd, hdd, g4, e4, r4⟩ := yl i v H4 hlt hy
    have edrop : xs.drop i = dd :: xs.drop (i + 1) := by
      rw [List.drop_eq_getElem_cons hlt]
      rw [List.getElem?_eq_getElem hlt] at hdd
      cases hdd
      rfl
    rw [edrop] at ec
    unfold compRun at ec
    -- the turn
    have base : RelS K S3 μ3 H4 ρ σ := ((r.mono g e1.w).mono g1 e3).mono g3 e4.w
    have turn : ∀ o S5, f dd S3 = some (o, S5) → (match o with | none => compRun f (xs.drop (i + 1)) acc S5 = some (ys, S2) | some y => small (acc.length + 1) = true ∧ compRun f (xs.drop (i + 1)) (acc ++ [y]) S5 = some (ys, S2)) →
        gT K t v (wipe σ (slotsT t)) H4 fun σ2 H5 => wipe σ2 (slotsT t) = wipe σ (slotsT t) ∧ tt σ2 H5 fun b H6 => if b = true then te σ2 H6 fun y H7 => ∃ acc, H7 L = some (.lst acc) ∧ acc.length < sizeLine ∧ (xs.length - (i + 1) = xs.length - (i + 1) ∧ i + 1 ≤ xs.length ∧ ∃ (acc' : List D) (vs : List V) (S2' : Sto) (μ2 : Mu), (upd H7 L (.lst (acc ++ [y]))) L = some (.lst vs) ∧ μ2.z = L :: μ1.z ∧ Good K S2' μ2 (upd H7 L (.lst (acc ++ [y]))) ∧ EvoW S1 μ1 H1 S2' μ2 (upd H7 L (.lst (acc ++ [y]))) ∧ (∀ a ∈ μ1.z, ∀ o, H1 a = some o → (upd H7 L (.lst (acc ++ [y]))) a = some o) ∧
      Reps K S2' μ2 (upd H7 L (.lst (acc ++ [y]))) acc' vs ∧ acc'.length ≤ 100000 ∧ compRun f (xs.drop (i + 1)) acc' S2' = some (ys, S2)) else (xs.length - (i + 1) = xs.length - (i + 1) ∧ i + 1 ≤ xs.length ∧ ∃ (acc : List D) (vs : List V) (S2' : Sto) (μ2 : Mu), H6 L = some (.lst vs) ∧ μ2.z = L :: μ1.z ∧ Good K S2' μ2 H6 ∧ EvoW S1 μ1 H1 S2' μ2 H6 ∧ (∀ a ∈ μ1.z, ∀ o, H1 a = some o → H6 a = some o) ∧
      Reps K S2' μ2 H6 acc vs ∧ acc.length ≤ 100000 ∧ compRun f (xs.drop (i + 1)) acc S2' = some (ys, S2)) := by
      intro o S5 ef hrest
      obtain ⟨ρ', st, fin⟩ := hf dd S3 S5 o ef
      refine ⟨dd, _, ρ', S3, μ3, g4, rels_wipe base, r4, st, fun σ2 r2 l2 n2 => ⟨wipe_eq (by rw [l2, wipe_length]) n2, ?_⟩⟩
      refine fin μ3 H4 σ2 _ _ g4 r2 fun μ5 H5 g5 e5 => ?_
      have e45 := e4.trans e5
      have hz5 : μ5.z = L :: μ1.z := by rw [e45.z, hz]
      have hL5 : H5 L = some (.lst vs) := e45.hold L _ hDz hL
      have hh5 : ∀ a ∈ μ1.z, ∀ o, H1 a = some o → H5 a = some o := fun a ha o q => e45.hold a _ (by rw [hz]; exact List.mem_cons_of_mem _ ha) (hh a ha o q)
      cases o with
      | none => exact ⟨rfl, hlt, acc, vs, S5, μ5, hL5, hz5, g5, e3.trans e45.w, hh5, ra.mono g3 e45.w, hal, hrest⟩
      | some y =>
        intro w rw'
        have hD5 : L ∈ μ5.z := by rw [hz5]; exact List.mem_cons_self
        have eg := evoW_grow (S := S5) (H := H5) (o := .lst (vs ++ [w])) hD5
        have rv := ra.mono g3 e45.w
        refine ⟨vs, hL5, by rw [← rv.length, sizeLine_eq]; omega, rfl, hlt, acc ++ [y], vs ++ [w], S5, μ5, upd_same, hz5, good_grow g5 hD5, (e3.trans e45.w).trans eg, fun a ha o q => ?_, (rv.mono g5 eg).append ⟨w, [], rfl, rw'.mono g5 eg, rfl⟩, ?_, hrest.2⟩
        · rw [upd_ne fun z => nD (by rw [← z]; exact ha)]
          exact hh5 a ha o q
        · have := small_le hrest.1
          rw [List.length_append]
          exact this
    split at ec
    · cases ec
    · rename_i S5 ef
      exact turn none S5 ef ec
    · rename_i y S5 ef
      split at ec
      · rename_i hsm
        exact turn (some y) S5 ef ⟨hsm, ec⟩
      · cases ec
  · have hi' : i = xs.length := by omega
    subst hi'
    refine .inl ⟨stop, ?_⟩
    rw [List.drop_length] at ec
    unfold compRun at ec
    cases ec
    obtain ⟨ps, zz⟩ := μ3
    have hz' : zz = L :: μ1.z := hz
    subst hz'
    have hold2 : ∀ a o, a ∈ μ.z → H a = some o → H2 a = some o := fun a o ha q => hh a (by rw [e1.z]; exact ha) o (e1.hold a o ha q)
    unfold mkList at em
    cases mt with
    | false =>
      rw [if_neg Bool.false_ne_true] at em
      cases em
      have ge : Good K S2 ⟨ps, μ1.z⟩ H2 := good_end (p := L) g3
      have ee : EvoW S2 ⟨ps, L :: μ1.z⟩ H2 S2 ⟨ps, μ1.z⟩ H2 := evoW_end (μ := ⟨ps, μ1.z⟩) (p := L)
      refine k (.ref L) ⟨ps, μ1.z⟩ H2 ge ⟨(e1.w.trans e3).trans ee, e1.z, hold2⟩ ⟨L, vs, rfl, .inl ⟨.inl hL, fun l => ?_⟩, ra.mono g3 ee⟩
      rcases l with l | l
      · exact g3.zn L List.mem_cons_self l
      · exact nD l
    | true =>
      rw [if_pos rfl] at em
      cases em
      obtain ⟨ge, ee⟩ := good_place (μ := ⟨ps, μ1.z⟩) (p := L) g3 nD hL ra
      exact k (.ref L) _ H2 ge ⟨(e1.w.trans e3).trans ee, e1.z, hold2⟩ ⟨L, rfl, get_last (l := ps) (x := L) g3.len⟩

/-- the comprehension's readings -/
theorem step_plain {K : PySem.W.Frag} {ρ : Env} {t : Tg} : StepOk K ρ t tYes (tE K F ie) (fun d S => match setT t d (wipeT t ρ) with
    | none => none
    | some ρ' => match ev F ie ρ' S with
      | none => none
      | some (y, S') => some (some y, S')) := by
  intro d S S' o h
  simp only at h
  split at h
  · cases h
  · rename_i ρ' st
    split at h
    · cases h
    · rename_i y S1 ee
      cases h
      exact ⟨ρ', st, fun μ H σ2 Y N g r k => by
        show (if true = true then tE K F ie σ2 H Y else N H)
        rw [if_pos rfl]
        exact ⟨ρ', S, μ, y, _, g, r, ee, fun v μ' H' g' e' rv => k μ' H' g' e' v rv⟩⟩
theorem step_if {K : PySem.W.Frag} {ρ : Env} {t : Tg} : StepOk K ρ t (tT K F ic) (tE K F ie) (fun d S => match setT t d (wipeT t ρ) with
    | none => none
    | some ρ' => match ev F ic ρ' S with
      | some (.bl true, S1) => (match ev F ie ρ' S1 with
        | none => none
        | some (y, S') => some (some y, S'))
      | some (.bl false, S1) => some (none, S1)
      | _ => none) := by
  intro d S S' o h
  simp only at h
  split at h
  · cases h
  · rename_i ρ' st
    split at h
    · rename_i S1 ec
      split at h
      · cases h
      · rename_i y S2 ee
        cases h
        exact ⟨ρ', st, fun μ H σ2 Y N g r k => ⟨ρ', S, μ, true, S1, g, r, ec, fun μ1 H1 g1 e1 => by
          show (if true = true then _ else _)
          rw [if_pos rfl]
          exact ⟨ρ', S1, μ1, y, _, g1, r.mono g e1.w, ee, fun v μ' H' g' e' rv => k μ' H' g' (e1.trans e') v rv⟩⟩⟩
    · rename_i S1 ec
      cases h
      exact ⟨ρ', st, fun μ H σ2 Y N g r k => ⟨ρ', S, μ, false, _, g, r, ec, fun μ1 H1 g1 e1 => by
        show (if false = true then _ else _)
        rw [if_neg Bool.false_ne_true]
        exact k μ1 H1 g1 e1⟩⟩
    · cases h
theorem lc_plain {K : PySem.W.Frag} {mt : Bool} {t : Tg} {σ : L2.St} {H : Hp} {Q : VK} (h : tE K F (.comp mt t ia ie) σ H Q) : tLc (tI K F ia) (gT K t) tYes (tE K F ie) (slotsT t) σ H Q := by
  obtain ⟨ρ, S, μ, d, S', g, r, q, k⟩ := h
  simp only [ev] at q
  split at q
  · cases q
  · rename_i x S1 ea
    split at q
    · cases q
    · rename_i xs hx
      split at q
      · cases q
      · rename_i ys S2 er
        exact comp_read g r ea hx step_plain er q k
theorem lc_if {K : PySem.W.Frag} {mt : Bool} {t : Tg} {σ : L2.St} {H : Hp} {Q : VK} (h : tE K F (.compI mt t ia ic ie) σ H Q) : tLc (tI K F ia) (gT K t) (tT K F ic) (tE K F ie) (slotsT t) σ H Q := by
  obtain ⟨ρ, S, μ, d, S', g, r, q, k⟩ := h
  simp only [ev] at q
  split at q
  · cases q
  · rename_i x S1 ea
    split at q
    · cases q
    · rename_i xs hx
      split at q
      · cases q
      · rename_i ys S2 er
        exact comp_read g r ea hx step_if er q k

theorem wipe_app (σ : L2.St) (b : List Nat) : ∀ a : List Nat, wipe σ (a ++ b) = wipe (wipe σ b) a
  | [] => rfl
  | x :: a => by
    show (wipe σ (a ++ b)).set x none = (wipe (wipe σ b) a).set x none
    rw [wipe_app σ b a]
/-- a turn's inner items and what is done with each -/
def g2F (F : CF) (t t2 : Tg) (ib ie : E) (ρ : Env) (d : D) (S : Sto) : Option (List D × (D → Sto → Option (Option D × Sto)) × Sto) := match setT t d (wipeT t (wipeT t2 ρ)) with
  | none => none
  | some ρ' => match ev F ib ρ' S with
    | none => none
    | some (y, S') => match items y with
      | none => none
      | some ys => some (ys, (fun e S => match setT t2 e (wipeT t2 ρ') with
        | none => none
        | some ρ2 => match ev F ie ρ2 S with
          | none => none
          | some (z, S') => some (some z, S')), S')
/-- the list at L that is being made -/
def Mk2 (K : PySem.W.Frag) (S1 : Sto) (μ1 : Mu) (H1 : Hp) (L : Addr) (acc : List D) (vs : List V) (S2 : Sto) (μ2 : Mu) (H2 : Hp) : Prop :=
  H2 L = some (.lst vs) ∧ μ2.z = L :: μ1.z ∧ Good K S2 μ2 H2 ∧ EvoW S1 μ1 H1 S2 μ2 H2 ∧ (∀ a ∈ μ1.z, ∀ o, H1 a = some o → H2 a = some o) ∧ Reps K S2 μ2 H2 acc vs ∧ acc.length ≤ 100000
theorem Mk2.step {K : PySem.W.Frag} {S1 S2 S3 : Sto} {μ1 μ2 μ3 : Mu} {H1 H2 H3 : Hp} {L : Addr} {acc : List D} {vs : List V} (m : Mk2 K S1 μ1 H1 L acc vs S2 μ2 H2) (g : Good K S3 μ3 H3) (e : Evo S2 μ2 H2 S3 μ3 H3) : Mk2 K S1 μ1 H1 L acc vs S3 μ3 H3 := by
  obtain ⟨hL, hz, g2, e2, hh, ra, hal⟩ := m
  exact ⟨e.hold L _ (by rw [hz]; exact List.mem_cons_self) hL, by rw [e.z, hz], g, e2.trans e.w, fun a ha o q => e.hold a _ (by rw [hz]; exact List.mem_cons_of_mem _ ha) (hh a ha o q), ra.mono g2 e.w, hal⟩
theorem Mk2.grow {K : PySem.W.Frag} {S1 S2 : Sto} {μ1 μ2 : Mu} {H1 H2 : Hp} {L : Addr} {acc : List D} {vs : List V} {y : D} {w : V} (nD : L ∉ μ1.z) (m : Mk2 K S1 μ1 H1 L acc vs S2 μ2 H2) (r : Rep K S2 μ2 H2 y w) (sm : small (acc.length + 1) = true) :
    Mk2 K S1 μ1 H1 L (acc ++ [y]) (vs ++ [w]) S2 μ2 (upd H2 L (.lst (vs ++ [w]))) := by
  obtain ⟨hL, hz, g2, e2, hh, ra, hal⟩ := m
  have hD5 : L ∈ μ2.z := by rw [hz]; exact List.mem_cons_self
  have eg := evoW_grow (S := S2) (H := H2) (o := .lst (vs ++ [w])) hD5
  refine ⟨upd_same, hz, good_grow g2 hD5, e2.trans eg, fun a ha o q => ?_, (ra.mono g2 eg).append ⟨w, [], rfl, r.mono g2 eg, rfl⟩, ?_⟩
  · rw [upd_ne fun z => nD (by rw [← z]; exact ha)]
    exact hh a ha o q
  · have := small_le sm
    rw [List.length_append]
    exact this
theorem yes_turn {σ : L2.St} {H : Hp} {A B : Hp → Prop} (h : A H) : tYes σ H (fun b H => if b = true then A H else B H) := by
  show (if true = true then A H else B H)
  rw [if_pos rfl]
  exact h
theorem comp2_read {K : PySem.W.Frag} {t t2 : Tg} {mt : Bool} {σ : L2.St} {H : Hp} {Q : VK} {ρ : Env} {S S1 S2 S' : Sto} {μ : Mu} {x d : D} {xs ys : List D} (g : Good K S μ H) (r : RelS K S μ H ρ σ) (ea : ev F ia ρ S = some (x, S1)) (hx : items x = some xs)
    (er : comp2Run (g2F F t t2 ib ie ρ) xs [] S1 = some (ys, S2)) (em : mkList mt ys S2 = some (d, S')) (k : ContS K S μ H S' d Q) : tLc2 (tI K F ia) (gT K t) tYes (tI K F ib) (gT K t2) tYes (tE K F ie) (slotsT t ++ slotsT t2) (slotsT t2) σ H Q := by
  refine ⟨ρ, S, μ, x, S1, xs, g, r, ea, hx, fun J μ1 H1 g1 e1 W L hD => ?_⟩
  have nD : L ∉ μ1.z := fun z => by
    obtain ⟨ws, q⟩ := g1.zl L z
    rw [hD] at q; cases q
  refine ⟨fun i m H2 => m = xs.length - i ∧ i ≤ xs.length ∧ ∃ (acc : List D) (vs : List V) (S2' : Sto) (μ2 : Mu), Mk2 K S1 μ1 H1 L acc vs S2' μ2 H2 ∧ comp2Run (g2F F t t2 ib ie ρ) (xs.drop i) acc S2' = some (ys, S2),
    ⟨xs.length, by simp, Nat.zero_le _, [], [], S1, μ1.hold L, ⟨upd_same, rfl, good_begin g1 hD, evoW_begin g1 hD, fun a ha o q => by rw [upd_ne (ne_of_none q hD)]; exact q, rfl, by simp⟩, er⟩, ?_⟩
  rintro i m H2 ⟨rfl, hi, acc, vs, S3, μ3, M3, ec⟩
  obtain ⟨hL, hz, g3, e3, hh, ra, hal⟩ := id M3
  obtain ⟨go, stop, yl⟩ := W S3 μ3 H2 g3 e3
  by_cases hlt : i < xs.length
  · refine .inr ⟨go i hlt, fun H' => (xs.length - (i + 1) = xs.length - (i + 1) ∧ i + 1 ≤ xs.length ∧ ∃ (acc : List D) (vs : List V) (S2' : Sto) (μ2 : Mu), Mk2 K S1 μ1 H1 L acc vs S2' μ2 H' ∧ comp2Run (g2F F t t2 ib ie ρ) (xs.drop (i + 1)) acc S2' = some (ys, S2)), fun H' h' => ⟨xs.length - (i + 1), by omega, h'⟩, fun v H4 hy => ?_⟩
    obtain ⟨dd, hdd, g4, e4, r4⟩ := yl i v H4 hlt hy
    have edrop : xs.drop i = dd :: xs.drop (i + 1) := by
      rw [List.drop_eq_getElem_cons hlt]
      rw [List.getElem?_eq_getElem hlt] at hdd
      cases hdd
      rfl
    rw [edrop] at ec
    unfold comp2Run at ec
    have base : RelS K S3 μ3 H4 ρ σ := ((r.mono g e1.w).mono g1 e3).mono g3 e4.w
    have M4 := M3.step g4 e4
    split at ec
    · cases ec
    · rename_i yl2 f S5 eg
      split at ec
      · cases ec
      · rename_i acc2 S7 eI
        unfold g2F at eg
        split at eg
        · cases eg
        · rename_i ρ' st
          split at eg
          · cases eg
          · rename_i y S6 eb
            split at eg
            · cases eg
            · rename_i yl3 hy3
              cases eg
              have rw0 : RelS K S3 μ3 H4 (wipeT t (wipeT t2 ρ)) (wipe σ (slotsT t ++ slotsT t2)) := by
                rw [wipe_app]
                exact rels_wipe (rels_wipe base)
              refine ⟨dd, _, ρ', S3, μ3, g4, rw0, r4, st, fun σ2 r2 l2 n2 => ⟨wipe_eq (by rw [l2, wipe_length]) fun j hj => n2 j fun z => hj (List.mem_append_left _ z), ?_⟩⟩
              refine yes_turn ?_
              refine ⟨ρ', S3, μ3, y, S5, yl2, g4, r2, eb, hy3, fun J1 μ5 H5 g5 e5 W1 => ?_⟩
              have M5 := M4.step g5 e5
              refine ⟨fun j k H6 => k = yl2.length - j ∧ j ≤ yl2.length ∧ ∃ (acc3 : List D) (vs3 : List V) (S6 : Sto) (μ6 : Mu), Mk2 K S1 μ1 H1 L acc3 vs3 S6 μ6 H6 ∧ EvoW S5 μ5 H5 S6 μ6 H6 ∧ compRun (fun e S => match setT t2 e (wipeT t2 ρ') with
        | none => none
        | some ρ2 => match ev F ie ρ2 S with
          | none => none
          | some (z, S') => some (some z, S')) (yl2.drop j) acc3 S6 = some (acc2, S7),
                ⟨yl2.length, by simp, Nat.zero_le _, acc, vs, S5, μ5, M5, EvoW.refl _ _ _, eI⟩, ?_⟩
              rintro j k6 H6 ⟨rfl, hj, acc3, vs3, S6, μ6, M6, e6, ec6⟩
              obtain ⟨go1, stop1, yl1⟩ := W1 S6 μ6 H6 M6.2.2.1 e6
              by_cases hlt1 : j < yl2.length
              · refine .inr ⟨go1 j hlt1, fun H' => (yl2.length - (j + 1) = yl2.length - (j + 1) ∧ j + 1 ≤ yl2.length ∧ ∃ (acc3 : List D) (vs3 : List V) (S6 : Sto) (μ6 : Mu), Mk2 K S1 μ1 H1 L acc3 vs3 S6 μ6 H' ∧ EvoW S5 μ5 H5 S6 μ6 H' ∧ compRun (fun e S => match setT t2 e (wipeT t2 ρ') with
        | none => none
        | some ρ2 => match ev F ie ρ2 S with
          | none => none
          | some (z, S') => some (some z, S')) (yl2.drop (j + 1)) acc3 S6 = some (acc2, S7)), fun H' h' => ⟨yl2.length - (j + 1), by omega, h'⟩, fun v8 H8 hy8 => ?_⟩
                obtain ⟨dd2, hdd2, g8, e8, r8⟩ := yl1 j v8 H8 hlt1 hy8
                have edrop1 : yl2.drop j = dd2 :: yl2.drop (j + 1) := by
                  rw [List.drop_eq_getElem_cons hlt1]
                  rw [List.getElem?_eq_getElem hlt1] at hdd2
                  cases hdd2
                  rfl
                rw [edrop1] at ec6
                unfold compRun at ec6
                have base2 : RelS K S6 μ6 H8 ρ' σ2 := ((r2.mono g4 e5.w).mono g5 e6).mono M6.2.2.1 e8.w
                split at ec6
                · cases ec6
                · rename_i S9 ef
                  split at ef
                  · cases ef
                  · split at ef <;> cases ef
                · rename_i z S9 ef
                  split at ec6
                  · rename_i hsm
                    split at ef
                    · cases ef
                    · rename_i ρ2 st2
                      split at ef
                      · cases ef
                      · rename_i z2 S10 ee
                        cases ef
                        refine ⟨dd2, _, ρ2, S6, μ6, g8, rels_wipe base2, r8, st2, fun σ3 r3 l3 n3 => ⟨wipe_eq (by rw [l3, wipe_length]) n3, ?_⟩⟩
                        refine yes_turn ?_
                        refine ⟨ρ2, S6, μ6, z, S9, g8, r3, ee, fun w9 μ9 H9 g9 e9 rw9 => ?_⟩
                        have M9 := (M6.step g8 e8).step g9 e9
                        refine ⟨vs3, M9.1, by rw [← M9.2.2.2.2.2.1.length, sizeLine_eq]; have := M9.2.2.2.2.2.2; omega, rfl, hlt1, acc3 ++ [z], vs3 ++ [w9], S9, μ9, M9.grow nD rw9 hsm, ?_, ec6⟩
                        have hD9 : L ∈ μ9.z := by rw [M9.2.1]; exact List.mem_cons_self
                        exact ((e6.trans e8.w).trans e9.w).trans (evoW_grow hD9)
                  · cases ec6
              · have hj' : j = yl2.length := by omega
                subst hj'
                rw [List.drop_length] at ec6
                unfold compRun at ec6
                cases ec6
                exact .inl ⟨stop1, rfl, hlt, acc2, vs3, S7, μ6, M6, ec⟩
  · have hi' : i = xs.length := by omega
    subst hi'
    refine .inl ⟨stop, ?_⟩
    rw [List.drop_length] at ec
    unfold comp2Run at ec
    cases ec
    obtain ⟨ps, zz⟩ := μ3
    have hz' : zz = L :: μ1.z := hz
    subst hz'
    have hold2 : ∀ a o, a ∈ μ.z → H a = some o → H2 a = some o := fun a o ha q => hh a (by rw [e1.z]; exact ha) o (e1.hold a o ha q)
    unfold mkList at em
    cases mt with
    | false =>
      rw [if_neg Bool.false_ne_true] at em
      cases em
      have ge : Good K S2 ⟨ps, μ1.z⟩ H2 := good_end (p := L) g3
      have ee : EvoW S2 ⟨ps, L :: μ1.z⟩ H2 S2 ⟨ps, μ1.z⟩ H2 := evoW_end (μ := ⟨ps, μ1.z⟩) (p := L)
      refine k (.ref L) ⟨ps, μ1.z⟩ H2 ge ⟨(e1.w.trans e3).trans ee, e1.z, hold2⟩ ⟨L, vs, rfl, .inl ⟨.inl hL, fun l => ?_⟩, ra.mono g3 ee⟩
      rcases l with l | l
      · exact g3.zn L List.mem_cons_self l
      · exact nD l
    | true =>
      rw [if_pos rfl] at em
      cases em
      obtain ⟨ge, ee⟩ := good_place (μ := ⟨ps, μ1.z⟩) (p := L) g3 nD hL ra
      exact k (.ref L) _ H2 ge ⟨(e1.w.trans e3).trans ee, e1.z, hold2⟩ ⟨L, rfl, get_last (l := ps) (x := L) g3.len⟩
theorem lc_two {K : PySem.W.Frag} {mt : Bool} {t t2 : Tg} {σ : L2.St} {H : Hp} {Q : VK} (h : tE K F (.comp2 mt t ia t2 ib ie) σ H Q) : tLc2 (tI K F ia) (gT K t) tYes (tI K F ib) (gT K t2) tYes (tE K F ie) (slotsT t ++ slotsT t2) (slotsT t2) σ H Q := by
  obtain ⟨ρ, S, μ, d, S', g, r, q, k⟩ := h
  simp only [ev] at q
  split at q
  · cases q
  · rename_i x S1 ea
    split at q
    · cases q
    · rename_i xs hx
      split at q
      · cases q
      · rename_i ys S2 er
        exact comp2_read g r ea hx er q k
/-- the block of a comprehension -/
abbrev Blk (X : Cx) (scope : Scope) (s : Shared) (H : Hp) (C : Addr) (cl : List (Str × Addr)) (fp : List Addr) : Cx := X.blk s H scope (compEnvC scope cl C X.env) fp
theorem cok_blk {scope : Scope} {s : Shared} {H : Hp} {C : Addr} {cl : List (Str × Addr)} {fp : List Addr} (ok : Cok X) : Cok (Blk X scope s H C cl fp) := ⟨ok.nd, ok.calm, ok.gd, ok.un⟩
theorem call_blk {fi ar : Nat} {x : Str} {scope : Scope} {s : Shared} {H : Hp} {C : Addr} {cl : List (Str × Addr)} {fp : List Addr} (h : CallOk X F fi ar x) : CallOk (Blk X scope s H C cl fp) F fi ar x := ⟨h.ar_, h.ex⟩
theorem callK_blk {fi ar n : Nat} {x : Str} {ks : List Str} {pm : List Nat} {scope : Scope} {s : Shared} {H : Hp} {C : Addr} {cl : List (Str × Addr)} {fp : List Addr} (h : CallKOk X F fi ar x n ks pm) : CallKOk (Blk X scope s H C cl fp) F fi ar x n ks pm := ⟨h.ar_, h.ex⟩
theorem i_comp {mt : Bool} {t : Tg} {elt tg iter : Expr} {scope : Scope} {own : List (Str × Nat)} (ok : Cok X) (hs : own.map (·.2) = slotsT t) (hi : PI X tg iter (tI X.K F ia)) (bk : BlkOk X.N X.env.scope scope own)
    (hg : ∀ s H C cl fp, PG (Blk X scope s H C cl fp) tg (gT X.K t)) (he : ∀ s H C cl fp, PE (Blk X scope s H C cl fp) elt (tE X.K F ie)) (hf : ∀ x, foldedSetIterable iter X.env x = pure x := by intro _; rfl) :
    PE X (.ListComp elt [⟨tg, iter, [], 0⟩] scope pos) (tE X.K F (.comp mt t ia ie)) :=
  PE.weak (pe_lc ok.calm ok.nd hi bk hg (fun _ _ _ _ _ => pts_nil) he hf) fun σ H Q h => by rw [hs]; exact lc_plain h
theorem i_compI {mt : Bool} {t : Tg} {elt tg iter c : Expr} {scope : Scope} {own : List (Str × Nat)} (ok : Cok X) (hs : own.map (·.2) = slotsT t) (hi : PI X tg iter (tI X.K F ia)) (bk : BlkOk X.N X.env.scope scope own)
    (hg : ∀ s H C cl fp, PG (Blk X scope s H C cl fp) tg (gT X.K t)) (hc : ∀ s H C cl fp, PT (Blk X scope s H C cl fp) c (tT X.K F ic)) (he : ∀ s H C cl fp, PE (Blk X scope s H C cl fp) elt (tE X.K F ie)) (hf : ∀ x, foldedSetIterable iter X.env x = pure x := by intro _; rfl) :
    PE X (.ListComp elt [⟨tg, iter, [c], 0⟩] scope pos) (tE X.K F (.compI mt t ia ic ie)) :=
  PE.weak (pe_lc ok.calm ok.nd hi bk hg (fun s H C cl fp => pts_one (hc s H C cl fp)) he hf) fun σ H Q h => by rw [hs]; exact lc_if h
theorem i_comp2 {mt : Bool} {t t2 : Tg} {elt tg iter tg2 iter2 : Expr} {scope : Scope} {own : List (Str × Nat)} (ok : Cok X) (hs : own.map (·.2) = slotsT t ++ slotsT t2) (hi : PI X tg iter (tI X.K F ia)) (bk : BlkOk X.N X.env.scope scope own)
    (hg : ∀ s H C cl fp, PG (Blk X scope s H C cl fp) tg (gT X.K t)) (hi2 : ∀ s H C cl fp, PI (Blk X scope s H C cl fp) tg2 iter2 (tI X.K F ib)) (hg2 : ∀ s H C cl fp, PG (Blk X scope s H C cl fp) tg2 (gT X.K t2)) (he : ∀ s H C cl fp, PE (Blk X scope s H C cl fp) elt (tE X.K F ie)) (hf : ∀ x, foldedSetIterable iter X.env x = pure x := by intro _; rfl) (hf2 : ∀ env x, foldedSetIterable iter2 env x = pure x := by intro _ _; rfl) :
    PE X (.ListComp elt [⟨tg, iter, [], 0⟩, ⟨tg2, iter2, [], 0⟩] scope pos) (tE X.K F (.comp2 mt t ia t2 ib ie)) :=
  PE.weak (pe_lc2 ok.calm ok.nd hi bk (vs1 := slotsT t2) (by rw [hs]; exact fun i hi => List.mem_append_right _ hi) hg (fun _ _ _ _ _ => pts_nil) hi2 hg2 (fun _ _ _ _ _ => pts_nil) he hf hf2) fun σ H Q h => by rw [hs]; exact lc_two h
end

section
variable {X : Cx} {F : CF} {w : Nat} {a b c e tg : Expr} {es : List Expr} {ia ib ic ie io : E} {ies : Es} {pos : Pos} {st : Stmt} {sts : List Stmt} {ist : Iv.St} {iss its : Ss}
/-- what holds behind a statement -/
def OutOk (K : PySem.W.Frag) (S : Sto) (μ : Mu) (H : Hp) (D : Ends) (σ : L2.St) (o : Out) (S' : Sto) : Prop := match o with
  | .nx ρ' => ∀ σ' μ' H', Good K S' μ' H' → Evo S μ H S' μ' H' → RelS K S' μ' H' ρ' σ' → D.nx σ' H'
  | .rt d => ∀ v μ' H', Good K S' μ' H' → Evo S μ H S' μ' H' → Rep K S' μ' H' d v → D.rt v H'
  | .bk ρ' => ∀ σ' μ' H', Good K S' μ' H' → Evo S μ H S' μ' H' → RelS K S' μ' H' ρ' σ' → D.bk σ' H'
  | .ct ρ' => ∀ σ' μ' H', Good K S' μ' H' → Evo S μ H S' μ' H' → RelS K S' μ' H' ρ' σ' → D.ct σ' H'
theorem OutOk.trans {K : PySem.W.Frag} {S S1 S' : Sto} {μ μ1 : Mu} {H H1 : Hp} {D : Ends} {σ : L2.St} {o : Out} (e : Evo S μ H S1 μ1 H1) (h : OutOk K S μ H D σ o S') : OutOk K S1 μ1 H1 D σ o S' := by
  cases o with
  | nx ρ => exact fun σ' μ' H' g e' r => h σ' μ' H' g (e.trans e') r
  | rt d => exact fun v μ' H' g e' r => h v μ' H' g (e.trans e') r
  | bk ρ => exact fun σ' μ' H' g e' r => h σ' μ' H' g (e.trans e') r
  | ct ρ => exact fun σ' μ' H' g e' r => h σ' μ' H' g (e.trans e') r
def tS (K : PySem.W.Frag) (F : CF) (w : Nat) (st : Iv.St) : TS := fun D σ H => ∃ (ρ : Env) (S : Sto) (μ : Mu) (o : Out) (S' : Sto), Good K S μ H ∧ RelS K S μ H ρ σ ∧ ex F w st ρ S = some (o, S') ∧ OutOk K S μ H D σ o S'
def tSs (K : PySem.W.Frag) (F : CF) (w : Nat) (ss : Ss) : TS := fun D σ H => ∃ (ρ : Env) (S : Sto) (μ : Mu) (o : Out) (S' : Sto), Good K S μ H ∧ RelS K S μ H ρ σ ∧ exs F w ss ρ S = some (o, S') ∧ OutOk K S μ H D σ o S'
theorem PS.weak {st : Stmt} {t t' : TS} (h : PS X st t) (k : ∀ D σ H, t' D σ H → t D σ H) : PS X st t' := ⟨fun pins s σ H D I q => h.run pins s σ H D I (k D σ H q)⟩
theorem PSs.weak {st : List Stmt} {t t' : TS} (h : PSs X st t) (k : ∀ D σ H, t' D σ H → t D σ H) : PSs X st t' := ⟨fun pins s σ H D I q => h.run pins s σ H D I (k D σ H q)⟩
theorem ss_nil : PSs X [] (tSs X.K F w .nil) := PSs.weak pss_nil fun D σ H ⟨ρ, S, μ, o, S', g, r, q, k⟩ => by
  simp only [exs] at q
  cases q
  exact k σ μ H g (Evo.refl _ _ _) r
theorem ss_cons (h1 : PS X st (tS X.K F w ist)) (h2 : PSs X sts (tSs X.K F w iss)) : PSs X (st :: sts) (tSs X.K F w (.cons ist iss)) := PSs.weak (pss_cons h1 h2) fun D σ H ⟨ρ, S, μ, o, S', g, r, q, k⟩ => by
  simp only [exs] at q
  split at q
  · cases q
  · rename_i ρ1 S1 e1
    exact ⟨ρ, S, μ, .nx ρ1, S1, g, r, e1, fun σ1 μ1 H1 g1 ev1 r1 => ⟨ρ1, S1, μ1, o, S', g1, r1, q, by
      have z := k.trans ev1
      cases o <;> exact z⟩⟩
  · rename_i oo hne e1
    obtain ⟨o1, S1⟩ := oo
    cases q
    refine ⟨ρ, S, μ, o, S', g, r, e1, ?_⟩
    cases o with
    | nx ρ1 => exact absurd rfl (hne ρ1 S')
    | rt d => exact k
    | bk ρ1 => exact k
    | ct ρ1 => exact k
/-- a list that will not change any more is seen as a value -/
theorem ss_frz {i : Nat} (h : PSs X sts (tSs X.K F w iss)) : PSs X sts (tSs X.K F w (.cons (.frz i) iss)) := PSs.weak h fun D σ H ⟨ρ, S, μ, o, S', g, r, q, k⟩ => by
  simp only [exs, ex] at q
  cases h1 : ρ[i]? with
  | none => simp [h1] at q
  | some od =>
    cases od with
    | none => simp [h1] at q
    | some d =>
      cases d with
      | ref j =>
        cases h2 : S[j]? with
        | none => simp [h1, h2] at q
        | some oxs =>
          cases oxs with
          | none => simp [h1, h2] at q
          | some xs =>
            simp only [h1, h2] at q
            cases no : isObj xs with
            | true => rw [no] at q; simp at q
            | false =>
            rw [no] at q
            simp only [Bool.false_eq_true, if_false] at q
            obtain ⟨v, hv, rv⟩ := r.at_ i _ h1
            have e : Evo S μ H (S.set j none) μ H := evo_drop
            have r2 : RelS X.K (S.set j none) μ H ρ σ := r.mono g e.w
            have hs : σ.set i (some v) = σ := by
              apply List.ext_getElem?
              intro m
              by_cases hm : i = m
              · subst hm
                rw [List.getElem?_set_self (List.getElem?_eq_some_iff.mp hv).1, hv]
              · rw [List.getElem?_set_ne hm]
            have r3 := r2.set i (rep_drop g h2 no rv)
            rw [hs] at r3
            exact ⟨_, _, μ, o, S', good_drop g, r3, q, by
              have z := k.trans e
              cases o <;> exact z⟩
      | _ => simp [h1] at q
/-- all the way in -/
theorem ss_frzD {i : Nat} (h : PSs X sts (tSs X.K F w iss)) : PSs X sts (tSs X.K F w (.cons (.frzD i) iss)) := PSs.weak h fun D σ H ⟨ρ, S, μ, o, S', g, r, q, k⟩ => by
  simp only [exs, ex] at q
  cases h1 : ρ[i]? with
  | none => simp [h1] at q
  | some od =>
    cases od with
    | none => simp [h1] at q
    | some d =>
      cases h2 : deep 1000 d S with
      | none => simp [h1, h2] at q
      | some p =>
        obtain ⟨d', S1⟩ := p
        simp only [h1, h2] at q
        obtain ⟨v, hv, rv⟩ := r.at_ i _ h1
        obtain ⟨g1, e, r1⟩ := deep_ok 1000 d d' S S1 μ H v h2 g rv
        have r2 : RelS X.K S1 μ H ρ σ := r.mono g e.w
        have hs : σ.set i (some v) = σ := by
          apply List.ext_getElem?
          intro m
          by_cases hm : i = m
          · subst hm
            rw [List.getElem?_set_self (List.getElem?_eq_some_iff.mp hv).1, hv]
          · rw [List.getElem?_set_ne hm]
        have r3 := r2.set i r1
        rw [hs] at r3
        exact ⟨_, _, μ, o, S', g1, r3, q, by
          have z := k.trans e
          cases o <;> exact z⟩
theorem s_pass : PS X (.Pass pos) (tS X.K F w .pass) := PS.weak ps_pass fun D σ H ⟨ρ, S, μ, o, S', g, r, q, k⟩ => by
  simp only [ex] at q
  cases q
  exact k σ μ H g (Evo.refl _ _ _) r
theorem s_brk : PS X (.Break pos) (tS X.K F w .brk) := PS.weak ps_break fun D σ H ⟨ρ, S, μ, o, S', g, r, q, k⟩ => by
  simp only [ex] at q
  cases q
  exact k σ μ H g (Evo.refl _ _ _) r
theorem s_cnt : PS X (.Continue pos) (tS X.K F w .cnt) := PS.weak ps_continue fun D σ H ⟨ρ, S, μ, o, S', g, r, q, k⟩ => by
  simp only [ex] at q
  cases q
  exact k σ μ H g (Evo.refl _ _ _) r
theorem s_never : PS X st (tS X.K F w .never) := PS.weak ps_never fun D σ H ⟨ρ, S, μ, o, S', g, r, q, k⟩ => by
  simp only [ex] at q
  cases q
theorem s_ex (he : PE X e (tE X.K F ie)) (hs : swapsWith e none pos.line X.env = pure false := by rfl) : PS X (.Expr e pos) (tS X.K F w (.ex ie)) := PS.weak (ps_expr he hs) fun D σ H ⟨ρ, S, μ, o, S', g, r, q, k⟩ => by
  simp only [ex] at q
  split at q
  · cases q
  · rename_i x S1 e1
    cases q
    exact ⟨ρ, S, μ, x, _, g, r, e1, fun v μ1 H1 g1 ev1 rv => k σ μ1 H1 g1 ev1 (r.mono g ev1.w)⟩
theorem s_ret (he : PE X e (tE X.K F ie)) : PS X (.Return (some e) pos) (tS X.K F w (.ret ie)) := PS.weak (ps_ret he) fun D σ H ⟨ρ, S, μ, o, S', g, r, q, k⟩ => by
  simp only [ex] at q
  split at q
  · cases q
  · rename_i x S1 e1
    cases q
    exact ⟨ρ, S, μ, x, _, g, r, e1, fun v μ1 H1 g1 ev1 rv => k v μ1 H1 g1 ev1 rv⟩
theorem s_if (hc : PT X c (tT X.K F ic)) (ha : PSs X sts (tSs X.K F w iss)) {sts2 : List Stmt} (hb : PSs X sts2 (tSs X.K F w its)) : PS X (.If c sts sts2 pos) (tS X.K F w (.ifs ic iss its)) := PS.weak (ps_if hc ha hb) fun D σ H ⟨ρ, S, μ, o, S', g, r, q, k⟩ => by
  simp only [ex] at q
  split at q
  · rename_i S1 e1
    exact ⟨ρ, S, μ, true, S1, g, r, e1, fun μ1 H1 g1 ev1 => by
      show (if true = true then _ else _)
      rw [if_pos rfl]
      exact ⟨ρ, S1, μ1, o, S', g1, r.mono g ev1.w, q, by have z := k.trans ev1; cases o <;> exact z⟩⟩
  · rename_i S1 e1
    exact ⟨ρ, S, μ, false, S1, g, r, e1, fun μ1 H1 g1 ev1 => by
      show (if false = true then _ else _)
      rw [if_neg Bool.false_ne_true]
      exact ⟨ρ, S1, μ1, o, S', g1, r.mono g ev1.w, q, by have z := k.trans ev1; cases o <;> exact z⟩⟩
  · cases q
theorem asg_read {t : Tg} {K : PySem.W.Frag} {D : Ends} {σ : L2.St} {H : Hp} (h : tS K F w (.asg t ie) D σ H) : tAsg (tE K F ie) (gT K t) D σ H := by
  obtain ⟨ρ, S, μ, o, S', g, r, q, k⟩ := h
  simp only [ex] at q
  split at q
  · cases q
  · rename_i x S1 e1
    split at q
    · cases q
    · rename_i ρ' st
      cases q
      exact ⟨ρ, S, μ, x, _, g, r, e1, fun v μ1 H1 g1 ev1 rv => ⟨x, ρ, ρ', _, μ1, g1, r.mono g ev1.w, rv, st, fun σ' r' _ _ => k σ' μ1 H1 g1 ev1 r'⟩⟩
theorem s_set {i : Nat} {x : Str} {pos' : Pos} (ok : Cok X) (hi : X.N[i]? = some x) (hx : Loc X.env.scope x) (he : PE X e (tE X.K F ie)) (hs : swapsWith e (some (.Name x pos')) pos.line X.env = pure false := by rfl) (hf : X.fn x = true ∨ X.env.scope.names.lookup x = some .local := by first | exact .inl rfl | exact .inr rfl | assumption) :
    PS X (.Assign [.Name x pos'] e pos) (tS X.K F w (.asg (.n i) ie)) := PS.weak (ps_set ok.nd hi hx he hs hf) fun D σ H h => by
  obtain ⟨ρ, S, μ, d, S', g, r, q, k⟩ := asg_read h
  exact ⟨ρ, S, μ, d, S', g, r, q, fun v μ1 H1 g1 e1 rv => by
    obtain ⟨d2, ρ2, ρ3, S2, μ2, g2, r2, rv2, st2, k2⟩ := k v μ1 H1 g1 e1 rv
    cases st2
    exact k2 _ (r2.set i rv2) (by rw [List.length_set]) fun j hj => List.getElem?_set_ne (by intro z; exact hj (by simp [slotsT, z]))⟩
theorem s_asg {t : Tg} (he : PE X e (tE X.K F ie)) (hg : PG X tg (gT X.K t)) (hs : swapsWithSole [tg] e pos.line X.env = pure false := by rfl) (hw : swappedStores [tg] e X.env = pure none := by rfl)
    (h1 : (assignEach [tg] X.env).map (·.2) = [assign tg X.env] := by rfl) : PS X (.Assign [tg] e pos) (tS X.K F w (.asg t ie)) := PS.weak (ps_asg he hg hs hw h1) fun D σ H h => asg_read h
/-- name = [..] on one line -/
theorem s_setLc {i : Nat} {y : Str} {py spos : Pos} {mt : Bool} {t : Tg} {elt iter : Expr} {scope : Scope} {own : List (Str × Nat)} (ok : Cok X) (hy : X.N[i]? = some y) (hyl : X.env.scope.names.lookup y = some .local)
    (hsw : swapsWith (.ListComp elt [⟨tg, iter, [], 0⟩] scope pos) (some (.Name y py)) spos.line X.env = pure true) (hs : own.map (·.2) = slotsT t) (hi : PI X tg iter (tI X.K F ia)) (bk : BlkOk X.N X.env.scope scope own)
    (hg : ∀ s H C cl fp, PG (Blk X scope s H C cl fp) tg (gT X.K t)) (he : ∀ s H C cl fp, PE (Blk X scope s H C cl fp) elt (tE X.K F ie)) (hf : ∀ x, foldedSetIterable iter X.env x = pure x := by intro _; rfl) :
    PS X (.Assign [.Name y py] (.ListComp elt [⟨tg, iter, [], 0⟩] scope pos) spos) (tS X.K F w (.asg (.n i) (.comp mt t ia ie))) :=
  PS.weak (ps_setLc ok.calm ok.nd hy hyl hsw hi bk hg (fun _ _ _ _ _ => pts_nil) he hf) fun D σ H h => by
    rw [hs]
    obtain ⟨ρ, S, μ, d, S', g, r, q, k⟩ := asg_read h
    exact lc_plain ⟨ρ, S, μ, d, S', g, r, q, fun v μ1 H1 g1 e1 rv => by
      obtain ⟨d2, ρ2, ρ3, S2, μ2, g2, r2, rv2, st2, k2⟩ := k v μ1 H1 g1 e1 rv
      cases st2
      exact k2 _ (r2.set i rv2) (by rw [List.length_set]) fun j hj => List.getElem?_set_ne (by intro z; exact hj (by simp [slotsT, z]))⟩
theorem s_setLcI {i : Nat} {y : Str} {py spos : Pos} {mt : Bool} {t : Tg} {elt iter : Expr} {scope : Scope} {own : List (Str × Nat)} (ok : Cok X) (hy : X.N[i]? = some y) (hyl : X.env.scope.names.lookup y = some .local)
    (hsw : swapsWith (.ListComp elt [⟨tg, iter, [c], 0⟩] scope pos) (some (.Name y py)) spos.line X.env = pure true) (hs : own.map (·.2) = slotsT t) (hi : PI X tg iter (tI X.K F ia)) (bk : BlkOk X.N X.env.scope scope own)
    (hg : ∀ s H C cl fp, PG (Blk X scope s H C cl fp) tg (gT X.K t)) (hc : ∀ s H C cl fp, PT (Blk X scope s H C cl fp) c (tT X.K F ic)) (he : ∀ s H C cl fp, PE (Blk X scope s H C cl fp) elt (tE X.K F ie)) (hf : ∀ x, foldedSetIterable iter X.env x = pure x := by intro _; rfl) :
    PS X (.Assign [.Name y py] (.ListComp elt [⟨tg, iter, [c], 0⟩] scope pos) spos) (tS X.K F w (.asg (.n i) (.compI mt t ia ic ie))) :=
  PS.weak (ps_setLc ok.calm ok.nd hy hyl hsw hi bk hg (fun s H C cl fp => pts_one (hc s H C cl fp)) he hf) fun D σ H h => by
    rw [hs]
    obtain ⟨ρ, S, μ, d, S', g, r, q, k⟩ := asg_read h
    exact lc_if ⟨ρ, S, μ, d, S', g, r, q, fun v μ1 H1 g1 e1 rv => by
      obtain ⟨d2, ρ2, ρ3, S2, μ2, g2, r2, rv2, st2, k2⟩ := k v μ1 H1 g1 e1 rv
      cases st2
      exact k2 _ (r2.set i rv2) (by rw [List.length_set]) fun j hj => List.getElem?_set_ne (by intro z; exact hj (by simp [slotsT, z]))⟩
theorem s_setLc2 {i : Nat} {y : Str} {py spos : Pos} {mt : Bool} {t t2 : Tg} {elt iter tg2 iter2 : Expr} {scope : Scope} {own : List (Str × Nat)} (ok : Cok X) (hy : X.N[i]? = some y) (hyl : X.env.scope.names.lookup y = some .local)
    (hsw : swapsWith (.ListComp elt [⟨tg, iter, [], 0⟩, ⟨tg2, iter2, [], 0⟩] scope pos) (some (.Name y py)) spos.line X.env = pure true) (hs : own.map (·.2) = slotsT t ++ slotsT t2) (hi : PI X tg iter (tI X.K F ia)) (bk : BlkOk X.N X.env.scope scope own)
    (hg : ∀ s H C cl fp, PG (Blk X scope s H C cl fp) tg (gT X.K t)) (hi2 : ∀ s H C cl fp, PI (Blk X scope s H C cl fp) tg2 iter2 (tI X.K F ib)) (hg2 : ∀ s H C cl fp, PG (Blk X scope s H C cl fp) tg2 (gT X.K t2)) (he : ∀ s H C cl fp, PE (Blk X scope s H C cl fp) elt (tE X.K F ie)) (hf : ∀ x, foldedSetIterable iter X.env x = pure x := by intro _; rfl) (hf2 : ∀ env x, foldedSetIterable iter2 env x = pure x := by intro _ _; rfl) :
    PS X (.Assign [.Name y py] (.ListComp elt [⟨tg, iter, [], 0⟩, ⟨tg2, iter2, [], 0⟩] scope pos) spos) (tS X.K F w (.asg (.n i) (.comp2 mt t ia t2 ib ie))) :=
  PS.weak (ps_setLc2 ok.calm ok.nd hy hyl hsw hi bk (vs1 := slotsT t2) (by rw [hs]; exact fun i hi => List.mem_append_right _ hi) hg (fun _ _ _ _ _ => pts_nil) hi2 hg2 (fun _ _ _ _ _ => pts_nil) he hf hf2) fun D σ H h => by
    rw [hs]
    obtain ⟨ρ, S, μ, d, S', g, r, q, k⟩ := asg_read h
    exact lc_two ⟨ρ, S, μ, d, S', g, r, q, fun v μ1 H1 g1 e1 rv => by
      obtain ⟨d2, ρ2, ρ3, S2, μ2, g2, r2, rv2, st2, k2⟩ := k v μ1 H1 g1 e1 rv
      cases st2
      exact k2 _ (r2.set i rv2) (by rw [List.length_set]) fun j hj => List.getElem?_set_ne (by intro z; exact hj (by simp [slotsT, z]))⟩
/-- a, b = x, y -/
theorem s_par2 {i j : Nat} {x y : Str} {px py pt : Pos} {kt k2 : Nat} {pt2 : Pos} (ok : Cok X) (hi : X.N[i]? = some x) (hj : X.N[j]? = some y) (hij : i ≠ j) (hx : X.env.scope.names.lookup x = some .local) (hy : X.env.scope.names.lookup y = some .local) (ha : PA X [a, b] (tA X.K F ies))
    (hw : swappedStores [.Tuple [.Name x px, .Name y py] kt pt] (.Tuple [a, b] k2 pt2) X.env = pure (some [x, y])) (hs : swapsWithSole [.Tuple [.Name x px, .Name y py] kt pt] (.Tuple [a, b] k2 pt2) pos.line X.env = pure false := by rfl) :
    PS X (.Assign [.Tuple [.Name x px, .Name y py] kt pt] (.Tuple [a, b] k2 pt2) pos) (tS X.K F w (.par [i, j] ies)) := PS.weak (ps_par ok.calm ok.nd hi hj hij hx hy ha hw hs) fun D σ H ⟨ρ, S, μ, o, S', g, r, q, k⟩ => by
  simp only [ex] at q
  split at q
  · cases q
  · rename_i xs S1 e1
    split at q
    · rename_i hl
      cases q
      match xs, hl with
      | [x1, x2], _ =>
        exact ⟨ρ, S, μ, _, _, g, r, e1, fun vs μ1 H1 g1 ev1 rv => by
          obtain ⟨v, ws, rfl, hv, hw⟩ := rv
          obtain ⟨w, rfl, hw2⟩ := reps1 hw
          exact ⟨v, w, rfl, k _ μ1 H1 g1 ev1 (((r.mono g ev1.w).set i hv).set j hw2)⟩⟩
    · cases q
theorem s_par3 {i j l : Nat} {x y z : Str} {px py pz pt : Pos} {kt k2 : Nat} {pt2 : Pos} (ok : Cok X) (hi : X.N[i]? = some x) (hj : X.N[j]? = some y) (hl : X.N[l]? = some z) (hij : i ≠ j) (hil : i ≠ l) (hjl : j ≠ l) (hx : X.env.scope.names.lookup x = some .local) (hy : X.env.scope.names.lookup y = some .local) (hz : X.env.scope.names.lookup z = some .local)
    (ha : PA X [a, b, c] (tA X.K F ies)) (hw : swappedStores [.Tuple [.Name x px, .Name y py, .Name z pz] kt pt] (.Tuple [a, b, c] k2 pt2) X.env = pure (some [x, y, z])) (hs : swapsWithSole [.Tuple [.Name x px, .Name y py, .Name z pz] kt pt] (.Tuple [a, b, c] k2 pt2) pos.line X.env = pure false := by rfl) :
    PS X (.Assign [.Tuple [.Name x px, .Name y py, .Name z pz] kt pt] (.Tuple [a, b, c] k2 pt2) pos) (tS X.K F w (.par [i, j, l] ies)) := PS.weak (ps_par3 ok.calm ok.nd hi hj hl hij hil hjl hx hy hz ha hw hs) fun D σ H ⟨ρ, S, μ, o, S', g, r, q, k⟩ => by
  simp only [ex] at q
  split at q
  · cases q
  · rename_i xs S1 e1
    split at q
    · rename_i hl
      cases q
      match xs, hl with
      | [x1, x2, x3], _ =>
        exact ⟨ρ, S, μ, _, _, g, r, e1, fun vs μ1 H1 g1 ev1 rv => by
          obtain ⟨v, ws, rfl, hv, hw⟩ := rv
          obtain ⟨w, us, rfl, hw1, hw2⟩ := hw
          obtain ⟨u, rfl, hu⟩ := reps1 hw2
          exact ⟨v, w, u, rfl, k _ μ1 H1 g1 ev1 ((((r.mono g ev1.w).set i hv).set j hw1).set l hu)⟩⟩
    · cases q
/-- o[i] = e -/
theorem s_put {sp : Pos} (ho : PE X a (tE X.K F ia)) (hi : PE X b (tE X.K F ib)) (he : PE X e (tE X.K F ie))
    (ha : ∀ v, assign (.Subscript a b sp) X.env v = (do
      let ov ← holding [v] (eval a X.env)
      let iv ← holding [v, ov] (eval b X.env)
      standAt sp
      holding [v, ov, iv] (setItem ov iv v)
      release [v, ov, iv] []) := by intro _; rfl)
    (hs : swapsWithSole [.Subscript a b sp] e pos.line X.env = pure false := by rfl) (hw : swappedStores [.Subscript a b sp] e X.env = pure none := by rfl)
    (h1 : (assignEach [.Subscript a b sp] X.env).map (·.2) = [assign (.Subscript a b sp) X.env] := by rfl) : PS X (.Assign [.Subscript a b sp] e pos) (tS X.K F w (.put ia ib ie)) :=
  PS.weak (ps_asg he (pg_sub ho hi set_list ha) hs hw h1) fun D σ H ⟨ρ, S, μ, o, S', g, r, q, k⟩ => by
    simp only [ex] at q
    split at q
    · cases q
    · rename_i x S1 e1
      split at q
      · rename_i l S2 e2
        split at q
        · rename_i kk S3 e3
          split at q
          · rename_i xs hS
            split at q
            · rename_i j hj
              split at q
              · cases q
              · rename_i no
                cases q
                refine ⟨ρ, S, μ, x, S1, g, r, e1, fun v μ1 H1 g1 ev1 rv => ⟨ρ, S1, μ1, _, S2, g1, r.mono g ev1.w, e2, fun ov μ2 H2 g2 ev2 ro => ⟨ρ, S2, μ2, _, S3, g2, r.mono g (ev1.trans ev2).w, e3, fun iv μ3 H3 g3 ev3 ri => ?_⟩⟩⟩
                obtain ⟨p, rfl, mp⟩ := ro.mono g2 ev3.w
                obtain ⟨p2, oo, mp2, hH, r0⟩ := g3.at_ _ _ hS
                rw [mp] at mp2; cases mp2
                obtain ⟨vs, rfl, rr⟩ := Obs.ls (by simpa using no) r0
                cases (show iv = V.int kk from ri)
                have ev12 := ev1.trans (ev2.trans ev3)
                have hp4 := evo_put (o := .lst (vs.set j v)) (ys := xs.set j x) g3 hS mp
                have g4 := good_put g3 hS mp (Reps.set ((rv.mono g1 (ev2.trans ev3).w)) j rr)
                exact ⟨p, vs, kk, j, rfl, rfl, hH, by rw [← rr.length]; exact hj, k σ μ3 _ g4 (ev12.trans hp4) (r.mono g (ev12.trans hp4).w)⟩
            · cases q
          · cases q
        · cases q
      · cases q

theorem zip_fst_snd {α β : Type} : ∀ l : List (α × β), (l.map (·.1)).zip (l.map (·.2)) = l
  | [] => rfl
  | _ :: l => by rw [List.map_cons, List.map_cons, List.zip_cons_cons, zip_fst_snd l]
theorem putP_rep {K : PySem.W.Frag} {S : Sto} {μ : Mu} {H : Hp} {f : Str} {d : D} {v : V} (h : Rep K S μ H d v) : ∀ (ns : List Str) (fs : List D) (vs : List V), ns.length = fs.length → Reps K S μ H fs vs →
    (putF f v (ns.zip vs)).map (·.1) = (putP f d (ns.zip fs)).map (·.1) ∧ Reps K S μ H ((putP f d (ns.zip fs)).map (·.2)) ((putF f v (ns.zip vs)).map (·.2))
  | [], [], vs, _, _ => ⟨rfl, _, _, rfl, h, rfl⟩
  | [], _ :: _, _, e, _ => by cases e
  | _ :: _, [], _, e, _ => by cases e
  | n :: ns, c :: fs, vs, e, ⟨w, r, ev, h1, h2⟩ => by
    subst ev
    simp only [List.zip_cons_cons, putF, putP]
    by_cases q : n = f
    · rw [if_pos q, if_pos q]
      have hl : (ns.zip r).map (·.1) = (ns.zip fs).map (·.1) := by
        have e2 := h2.length
        have e3 : ns.length = fs.length := Nat.succ.inj e
        rw [List.map_fst_zip (by omega), List.map_fst_zip (by omega)]
      have hs : (ns.zip r).map (·.2) = r := List.map_snd_zip (by have := h2.length; have e3 : ns.length = fs.length := Nat.succ.inj e; omega)
      have hs2 : (ns.zip fs).map (·.2) = fs := List.map_snd_zip (by have e3 : ns.length = fs.length := Nat.succ.inj e; omega)
      refine ⟨by rw [List.map_cons, List.map_cons, hl], ?_⟩
      rw [List.map_cons, List.map_cons, hs, hs2]
      exact ⟨_, _, rfl, h, h2⟩
    · rw [if_neg q, if_neg q]
      obtain ⟨i1, i2⟩ := putP_rep h ns fs r (Nat.succ.inj e) h2
      exact ⟨by rw [List.map_cons, List.map_cons, i1], _, _, rfl, h1, i2⟩
theorem s_setf {x f : Str} {pos' : Pos} (hc : Cls X.K (He.ga X.K x)) (hn : NoAttr X.K (He.ga X.K x) f) (ho : PE X a (tE X.K F ia)) (he : PE X e (tE X.K F ie)) (hs : swapsWith e (some (.Attribute a f pos')) pos.line X.env = pure false := by rfl) :
    PS X (.Assign [.Attribute a f pos'] e pos) (tS X.K F w (.setf x ia f ie)) := PS.weak (ps_fld ho he hs) fun D σ H ⟨ρ, S, μ, o, S', g, r, q, k⟩ => by
  simp only [ex] at q
  split at q
  · cases q
  · rename_i d0 S1 e1
    split at q
    · rename_i i S2 e2
      split at q
      · rename_i xs hS
        split at q
        · rename_i ys hp
          cases q
          refine ⟨ρ, S, μ, d0, S1, g, r, e1, fun v μ1 H1 g1 ev1 rv => ⟨ρ, S1, μ1, .ref i, S2, g1, r.mono g ev1.w, e2, fun ov μ2 H2 g2 ev2 ro => ?_⟩⟩
          unfold putD at hp
          split at hp
          · rename_i z ns fs
            split at hp
            · rename_i hz
              rw [Bool.and_eq_true, decide_eq_true_eq, decide_eq_true_eq] at hz
              obtain ⟨rfl, hl100⟩ := hz
              cases hp
              obtain ⟨b, dx, vs, rfl, mb, hb, hl, rr⟩ := g2.ob hS ro
              obtain ⟨p1, p2⟩ := putP_rep (f := f) (rv.mono g1 ev2.w) ns fs vs hl rr
              have ob : Obs X.K S2 μ2 H2 (.cl z ((putP f d0 (ns.zip fs)).map (·.1)) :: (putP f d0 (ns.zip fs)).map (·.2)) (.ins (He.ga X.K z) dx (putF f v (ns.zip vs))) := by
                refine ⟨dx, (putF f v (ns.zip vs)).map (·.2), ?_, by rw [List.length_map, List.length_map], p2⟩
                rw [← p1, zip_fst_snd]
              have g3 := good_put2 g2 hS mb ob
              have ev3 := evo_put (o := .ins (He.ga X.K z) dx (putF f v (ns.zip vs))) (ys := .cl z ((putP f d0 (ns.zip fs)).map (·.1)) :: (putP f d0 (ns.zip fs)).map (·.2)) g2 hS mb
              have ev13 := (ev1.trans ev2).trans ev3
              refine ⟨b, _, dx, _, rfl, hb, hc, hn, ?_, k σ _ _ g3 ev13 (r.mono g ev13.w)⟩
              rw [List.length_zip]
              omega
            · cases hp
          · cases hp
        · cases q
      · cases q
    · cases q

theorem s_for {t : Tg} {iter : Expr} (ok : Cok X) (hp : PassesOwn (model X.prog X.w) X.A X.env X.xe) (hi : PI X tg iter (tI X.K F ia)) (hg : PG X tg (gT X.K t)) (hb : PSs X sts (tSs X.K F w iss)) (hf : ∀ x, foldedSetIterable iter X.env x = pure x := by intro _; rfl) :
    PS X (.For tg iter sts [] pos) (tS X.K F w (.for t ia iss)) := PS.weak (ps_for hp ok.calm hi hg hb hf) fun D σ H ⟨ρ, S, μ, o, S', g, r, q, k⟩ => by
  simp only [ex] at q
  split at q
  · cases q
  · rename_i x S1 e1
    split at q
    · cases q
    · rename_i xs hx
      refine ⟨ρ, S, μ, x, S1, xs, g, r, e1, hx, fun J μ1 H1 g1 ev1 W => ?_⟩
      refine ⟨fun i m σ2 H2 => m = xs.length - i ∧ i ≤ xs.length ∧ ∃ (ρ2 : Env) (S2 : Sto) (μ2 : Mu), Good X.K S2 μ2 H2 ∧ Evo S1 μ1 H1 S2 μ2 H2 ∧ RelS X.K S2 μ2 H2 ρ2 σ2 ∧ forRun t (fun ρ S => exs F w iss ρ S) (xs.drop i) ρ2 S2 = some (o, S'),
        ⟨xs.length, by simp, Nat.zero_le _, ρ, S1, μ1, g1, Evo.refl _ _ _, r.mono g ev1.w, q⟩, ?_⟩
      rintro i m σ2 H2 ⟨rfl, hi, ρ2, S2, μ2, g2, ev2, r2, ec⟩
      obtain ⟨go, stop, yl⟩ := W S2 μ2 H2 g2 ev2.w
      by_cases hlt : i < xs.length
      · refine .inr ⟨go i hlt, _, fun σ' H' h' => ⟨xs.length - (i + 1), by omega, h'⟩, fun v H4 hy => ?_⟩
        obtain ⟨dd, hdd, g4, e4, r4⟩ := yl i v H4 hlt hy
        have edrop : xs.drop i = dd :: xs.drop (i + 1) := by
          rw [List.drop_eq_getElem_cons hlt]
          rw [List.getElem?_eq_getElem hlt] at hdd
          cases hdd
          rfl
        rw [edrop] at ec
        unfold forRun at ec
        split at ec
        · cases ec
        · rename_i ρ3 st
          refine ⟨dd, ρ2, ρ3, S2, μ2, g4, r2.mono g2 e4.w, r4, st, fun σ3 r3 _ _ => ?_⟩
          have ev24 := ev2.trans e4
          split at ec
          · cases ec
          · rename_i ρ4 S4 eb
            exact ⟨ρ3, S2, μ2, _, S4, g4, r3, eb, fun σ5 μ5 H5 g5 ev5 r5 => ⟨rfl, hlt, ρ4, S4, μ5, g5, ev24.trans ev5, r5, ec⟩⟩
          · rename_i ρ4 S4 eb
            exact ⟨ρ3, S2, μ2, _, S4, g4, r3, eb, fun σ5 μ5 H5 g5 ev5 r5 => ⟨rfl, hlt, ρ4, S4, μ5, g5, ev24.trans ev5, r5, ec⟩⟩
          · rename_i ρ4 S4 eb
            cases ec
            exact ⟨ρ3, S2, μ2, _, _, g4, r3, eb, fun σ5 μ5 H5 g5 ev5 r5 => k σ5 μ5 H5 g5 (ev1.trans (ev24.trans ev5)) r5⟩
          · rename_i d4 S4 eb
            cases ec
            exact ⟨ρ3, S2, μ2, _, _, g4, r3, eb, fun v5 μ5 H5 g5 ev5 r5 => k v5 μ5 H5 g5 (ev1.trans (ev24.trans ev5)) r5⟩
      · have hi' : i = xs.length := by omega
        subst hi'
        rw [List.drop_length] at ec
        unfold forRun at ec
        cases ec
        exact .inl ⟨stop, k σ2 μ2 H2 g2 (ev1.trans ev2) r2⟩
theorem s_wh (hp : PassesOwn (model X.prog X.w) X.A X.env X.xe) (hc : PT X c (tT X.K F ic)) (hb : PSs X sts (tSs X.K F w iss)) : PS X (.While c sts [] pos) (tS X.K F w (.wh ic iss)) := PS.weak (ps_while hp hc hb) fun D σ H ⟨ρ, S, μ, o, S', g, r, q, k⟩ => by
  simp only [ex] at q
  refine ⟨fun m σ2 H2 => ∃ (ρ2 : Env) (S2 : Sto) (μ2 : Mu), Good X.K S2 μ2 H2 ∧ Evo S μ H S2 μ2 H2 ∧ RelS X.K S2 μ2 H2 ρ2 σ2 ∧ whRun (fun ρ S => ev F ic ρ S) (fun ρ S => exs F w iss ρ S) m ρ2 S2 = some (o, S'), ⟨w, ρ, S, μ, g, Evo.refl _ _ _, r, q⟩, ?_⟩
  rintro m σ2 H2 ⟨ρ2, S2, μ2, g2, ev2, r2, ec⟩
  cases m with
  | zero => cases ec
  | succ m =>
    unfold whRun at ec
    split at ec
    · rename_i S3 et
      cases ec
      exact ⟨ρ2, S2, μ2, false, _, g2, r2, et, fun μ3 H3 g3 ev3 => by
        show (if false = true then _ else _)
        rw [if_neg Bool.false_ne_true]
        exact k σ2 μ3 H3 g3 (ev2.trans ev3) (r2.mono g2 ev3.w)⟩
    · rename_i S3 et
      refine ⟨ρ2, S2, μ2, true, S3, g2, r2, et, fun μ3 H3 g3 ev3 => ?_⟩
      show (if true = true then _ else _)
      rw [if_pos rfl]
      refine ⟨_, fun σ' H' h' => ⟨m, Nat.lt_succ_self m, h'⟩, ?_⟩
      have ev23 := ev2.trans ev3
      have r3 := r2.mono g2 ev3.w
      split at ec
      · cases ec
      · rename_i ρ4 S4 eb
        exact ⟨ρ2, S3, μ3, _, S4, g3, r3, eb, fun σ5 μ5 H5 g5 ev5 r5 => ⟨ρ4, S4, μ5, g5, ev23.trans ev5, r5, ec⟩⟩
      · rename_i ρ4 S4 eb
        exact ⟨ρ2, S3, μ3, _, S4, g3, r3, eb, fun σ5 μ5 H5 g5 ev5 r5 => ⟨ρ4, S4, μ5, g5, ev23.trans ev5, r5, ec⟩⟩
      · rename_i ρ4 S4 eb
        cases ec
        exact ⟨ρ2, S3, μ3, _, _, g3, r3, eb, fun σ5 μ5 H5 g5 ev5 r5 => k σ5 μ5 H5 g5 (ev23.trans ev5) r5⟩
      · rename_i d4 S4 eb
        cases ec
        exact ⟨ρ2, S3, μ3, _, _, g3, r3, eb, fun v5 μ5 H5 g5 ev5 r5 => k v5 μ5 H5 g5 (ev23.trans ev5) r5⟩
    · cases ec
end
end Iv

set_option Elab.async false
set_option linter.all false
set_option maxRecDepth 100000
set_option maxHeartbeats 1000000
namespace Iv
open PySem PySem.Spec PyProof.Rows L2

/-- the code of a def, at its entry -/
abbrev BodyX (P : Program) (w : World) (K : PySem.W.Frag) (mg : Str → Option Value) (base : Heap) (N : List Str) (qual : Str) (scope : Scope) (f : Addr) (cdv : Value) (A : Around) (outer : List PySem.Env) (s : Shared) (H : Hp) : Cx := (cxOf L2.CX0 P w K mg base N qual scope f cdv A outer s H L2.E0).nox
section
variable {P : Program} {w : World} {K : PySem.W.Frag} {mg : Str → Option Value} {base : Heap}
/-- a def keeps what the evaluation of its body says -/
theorem fnI_of {T : List Fn} {wh k fi : Nat} {fn : Fn} {f : Addr} {fd : FuncData} {x qual : Str} {params : Arguments} {body : List Stmt} {scope : Scope} {N ps : List Str} (FD : FunD K x qual params body scope [] [] f fd) (sc : FnScope N ps scope) (hT : T[fi]? = some fn) (har : fn.ar = ps.length) (hsl : fn.sl = N.length)
    (hbody : ∀ cdv A outer s H, Room k (A.deeper (envOfC qual scope s.heap.objs.size f cdv)) → Cok (BodyX P w K mg base N qual scope f cdv A outer s H) → PSs (BodyX P w K mg base N qual scope f cdv A outer s H) body (tSs K (run T wh k) wh fn.body)) :
    FnI P w K mg base (k + 1) f fd ps (spI K (run T wh (k + 1)) fn.ar fi) := by
  obtain ⟨oc, od, dV, kV, doc, pm, an, cdv, ct, osl, rfl, lk, hcd, _, _⟩ := FD.ex
  have hlen : ∀ vs H Q, spI K (run T wh (k + 1)) fn.ar fi vs H Q → vs.length = ps.length := fun vs H Q ⟨S, μ, ds, d, S', g, rv, hl, _⟩ => by rw [← rv.length, hl, har]
  refine ⟨hlen, fun A outer s H args us vs Q hr hgd e0 hb r hsp => ?_⟩
  have hl := hlen _ _ _ hsp
  have inBase : ∀ b o, base.get? b = some o → s.heap.get? b = some o := fun b o q => (e0.bs b o q).1
  have KX : K.In s.heap := e0.mod.kin.keeps inBase
  have lim : s.heap.NoLimit := e0.mod.nolimit.keeps inBase
  have hkind : ∀ y ∈ ps.zip us, scope.names.lookup y.1 = some .local ∨ (scope.names.lookup y.1 = some .cell ∧ ((cellsFrom (s.heap.objs.size + 1) scope.names []).lookup y.1).isSome = true) := by
    rintro ⟨n, v⟩ hy
    have hn := (List.of_mem_zip hy).1
    rcases sc.par n hn with z | z
    · exact .inl z
    · exact .inr ⟨z, PySem.W.cellsFrom_some _ _ _ (.inl z)⟩
  refine codeAny_call_function hr.depth (KX _ _ lk) rfl sc.co sc.gen rfl (PySem.W.codeRec_of KX hcd) (hb _ _ _ _ ?_)
  refine wpAny_newFunctionEnv_cells sc.kind hkind fun env he s1 entry => ?_
  cases he
  refine ⟨lim.keeps entry.toInCall.keep, codeAny_func ?_⟩
  have hroom : Room k (A.deeper (envOfC qual scope s.heap.objs.size f cdv)) := hr.deeper _
  have ok : Cok (BodyX P w K mg base N qual scope f cdv A outer s H) := ⟨sc.nd, rfl, hgd, by have := hr.un; show A.units + 3 + 200 < cLine; omega⟩
  have I : Inv (cxOf L2.CX0 P w K mg base N qual scope f cdv A outer s H L2.E0) [] (L2.start N vs) H s1 := inv_start sc hr.hd e0 hl r entry
  obtain ⟨S, μ, ds, d, S', g, rv, hd, q, kk⟩ := hsp
  -- the slots at the entry
  have rel : RelS K S μ H (ds.map some ++ List.replicate (fn.sl - fn.ar) none) (L2.start N vs) := by
    refine ⟨by unfold L2.start; rw [List.length_append, List.length_append, List.length_map, List.length_map, List.length_replicate, List.length_replicate, hsl, har, hl, ← hl, ← rv.length], fun i c hc => ?_⟩
    by_cases hi : i < ds.length
    · rw [List.getElem?_append_left (by rw [List.length_map]; exact hi), List.getElem?_map] at hc
      cases e : ds[i]? with
      | none => rw [e] at hc; cases hc
      | some c' =>
        rw [e] at hc
        cases hc
        obtain ⟨v, h1, h2⟩ := rv.get e
        refine ⟨v, ?_, h2⟩
        unfold L2.start
        rw [List.getElem?_append_left (by rw [List.length_map, ← rv.length]; exact hi), List.getElem?_map, h1]
        rfl
    · rw [List.getElem?_append_right (by rw [List.length_map]; omega), List.getElem?_replicate] at hc
      split at hc
      · cases hc
      · cases hc
  have q1 : ∃ o S1, exs (run T wh k) wh fn.body (ds.map some ++ List.replicate (fn.sl - fn.ar) none) S = some (o, S1) ∧ ((∃ ρ, o = .nx ρ ∧ d = .non ∧ S' = leave S.length .non S1) ∨ (o = .rt d ∧ S' = leave S.length d S1)) := by
    unfold run at q
    simp only [hT] at q
    rw [if_pos hd] at q
    split at q
    · rename_i d1 S1 e1
      cases q
      exact ⟨_, _, e1, .inr ⟨rfl, rfl⟩⟩
    · rename_i ρ1 S1 e1
      cases q
      exact ⟨_, _, e1, .inl ⟨_, rfl, rfl, rfl⟩⟩
    · cases q
  obtain ⟨o, S1, e1, ends⟩ := q1
  -- what is forgotten at the end
  have fin : ∀ (c : D) (v : V) (μ1 : Mu) (H1 : Hp), d = c → S' = leave S.length c S1 → Good K S1 μ1 H1 → Evo S μ H S1 μ1 H1 → Rep K S1 μ1 H1 c v → Q v H1 := by
    intro c v μ1 H1 hc hS g1 ev1 rv1
    subst hc
    unfold leave at hS
    split at hS
    · rename_i hp
      subst hS
      rw [Bool.and_eq_true] at hp
      exact kk v (μ1.take S.length) H1 (good_take g1 _ hp.2) (evo_take g.len.symm ev1) ((Bool.or_eq_true_iff.mp hp.1).elim (fun z => Rep.forget (fun a l => live_take l) z rv1) fun z => Rep.forget0 (fun a l => live_take l) z rv1)
    · subst hS
      exact kk v μ1 H1 g1 ev1 rv1
  have hbod := hbody cdv A outer s H hroom ok
  refine wpAny_mono (hbod.run [] s1 (L2.start N vs) H { nx := fun _ H' => Q .non H', rt := Q } (I.wish _) ⟨_, S, μ, o, S1, g, rel, e1, ?_⟩) (fun fl s' hs => ?_) fun e s' hs => False.elim hs
  · rcases ends with ⟨ρ1, rfl, rfl, hS⟩ | ⟨rfl, hS⟩
    · exact fun σ' μ' H' g' e' _ => fin .non .non μ' H' rfl hS g' e' rfl
    · exact fun v μ' H' g' e' rv' => fin d v μ' H' rfl hS g' e' rv'
  · have fin2 : ∀ {σ' : L2.St} {H' : Hp} {v : V} {u : Value}, Inv (cxOf L2.CX0 P w K mg base N qual scope f cdv A outer s H L2.E0) [] σ' H' s' → RelV v u → Q v H' → CE outer P w H s Q u s' :=
      fun J rv q => ⟨_, _, J.os, J.bare, J.base, J.hok, rv, q⟩
    have hs' := hs.unwish
    cases fl with
    | ret u =>
      obtain ⟨v, σ', H', J, rv', q'⟩ := hs'
      exact fin2 J rv' q'
    | next =>
      obtain ⟨σ', H', J, q'⟩ := hs'
      exact fin2 (v := V.non) (u := Value.none) J rfl q'
    | brk =>
      obtain ⟨_, _, _, q'⟩ := hs'
      exact False.elim q'
    | cont =>
      obtain ⟨_, _, _, q'⟩ := hs'
      exact False.elim q'
theorem run_ar {T : List Fn} {wh n fi : Nat} {fn : Fn} (hT : T[fi]? = some fn) : ∀ ds S r, run T wh n fi ds S = some r → ds.length = fn.ar := by
  intro ds S r h
  cases n with
  | zero => cases h
  | succ n =>
    unfold run at h
    simp only [hT] at h
    split at h
    · rename_i e
      exact e
    · cases h
end
structure DefI where
  name : Str
  cls : Option Str := none
  qual : Str
  ps : List Str
  N : List Str
  fn : Fn
  params : Arguments
  body : List Stmt
  scope : Scope
/-- where a def stands: a global, or a class's method -/
def DefI.key (d : DefI) : Str × Option Str := match d.cls with
  | none => (d.name, none)
  | some x => (x, some d.name)
/-- what the top has left -/
structure TopOk (K : PySem.W.Frag) (mg : Str → Option Value) (Ds : List DefI) : Prop where
  dfn : ∀ (i : Nat) (d : DefI), Ds[i]? = some d → ∃ fd, FunD K d.name d.qual d.params d.body d.scope [] [] (He.fAd K d.key) fd ∧ Binds K fd d.ps []
  glo : ∀ (i : Nat) (d : DefI), Ds[i]? = some d → d.cls = none → mg d.name = some (.ref (He.fAd K d.key))
  mth : ∀ (i : Nat) (d : DefI) (x : Str), Ds[i]? = some d → d.cls = some x → d.name ≠ "__init__" → Cls K (He.ga K x) ∧ Meth K (He.ga K x) d.name (He.fAd K d.key)
  mak : ∀ (i : Nat) (d : DefI) (x : Str), Ds[i]? = some d → d.cls = some x → d.name = "__init__" → mg x = some (.ref (He.ga K x)) ∧ Mk K (He.ga K x) (He.fAd K d.key)
  sc : ∀ (i : Nat) (d : DefI), Ds[i]? = some d → FnScope d.N d.ps d.scope ∧ d.fn.ar = d.ps.length ∧ d.fn.sl = d.N.length
abbrev Fns (Ds : List DefI) : List Fn := Ds.map (·.fn)
/-- keywords bind so -/
def KwOk (d : DefI) (n : Nat) (ks : List Str) (pm : List Nat) : Prop := ∀ (kV doc pmv : Value) (an : Option Addr) (cdv ct : Value) (us ws : List Value), us.length = n → ws.length = ks.length →
  bindArgs (PySem.W.fnOf d.name d.qual d.params d.body d.scope .none kV doc pmv an cdv ct) ⟨us, ks.zip ws⟩ = pure (d.ps.zip (prm pm (us ++ ws)))
/-- what a body may lean on -/
structure BodyOk (X : Cx) (Ds : List DefI) (wh k : Nat) : Prop where
  ok : Cok X
  call : ∀ (i : Nat) (d : DefI), Ds[i]? = some d → d.cls = none → CallOk X (run (Fns Ds) wh k) i d.fn.ar d.name
  callK : ∀ (i : Nat) (d : DefI) (n : Nat) (ks : List Str) (pm : List Nat), Ds[i]? = some d → d.cls = none → KwOk d n ks pm → CallKOk X (run (Fns Ds) wh k) i d.fn.ar d.name n ks pm
  meth : ∀ (i : Nat) (d : DefI) (x : Str), Ds[i]? = some d → d.cls = some x → d.name ≠ "__init__" → MethOk X (run (Fns Ds) wh k) i d.fn.ar x d.name
  make : ∀ (i : Nat) (d : DefI) (x : Str), Ds[i]? = some d → d.cls = some x → d.name = "__init__" → MakeOk X (run (Fns Ds) wh k) (Ds.length + i) d.fn.ar x
section
variable {P : Program} {w : World} {K : PySem.W.Frag} {mg : Str → Option Value} {base : Heap}
theorem fns_get {Ds : List DefI} {i : Nat} {d : DefI} (h : Ds[i]? = some d) : (Fns Ds)[i]? = some d.fn := by rw [List.getElem?_map, h]; rfl
theorem FnI.weak {k : Nat} {f : Addr} {fd : FuncData} {ps : List Str} {sp sp' : SpI} (F : FnI P w K mg base k f fd ps sp) (h : ∀ vs H Q, sp' vs H Q → sp vs H Q) : FnI P w K mg base k f fd ps sp' :=
  ⟨fun vs H Q q => F.len vs H Q (h _ _ _ q), fun A outer s H args us vs Q hr hg e hb r q => F.run A outer s H args us vs Q hr hg e hb r (h _ _ _ q)⟩
theorem run_make_at {Ds : List DefI} {wh k i : Nat} {ds : List D} {S : Sto} : run (Fns Ds) wh (k + 1) (Ds.length + i) ds S = run (Fns Ds) wh k i ds S := by
  have e : (Fns Ds)[Ds.length + i]? = none := List.getElem?_eq_none (by rw [List.length_map]; omega)
  have e2 : Ds.length + i - (Fns Ds).length = i := by rw [List.length_map]; omega
  show (match (Fns Ds)[Ds.length + i]? with
    | none => run (Fns Ds) wh k (Ds.length + i - (Fns Ds).length) ds S
    | some fn => _) = _
  rw [e, e2]
theorem all_fnI {Ds : List DefI} {wh : Nat} (T : TopOk K mg Ds)
    (bodies : ∀ (i : Nat) (d : DefI), Ds[i]? = some d → ∀ k f cdv A outer s H, BodyOk (BodyX P w K mg base d.N d.qual d.scope f cdv A outer s H) Ds wh k → PSs (BodyX P w K mg base d.N d.qual d.scope f cdv A outer s H) d.body (tSs K (run (Fns Ds) wh k) wh d.fn.body)) :
    ∀ (n k : Nat), k ≤ n → ∀ (i : Nat) (d : DefI) fd, Ds[i]? = some d → FunD K d.name d.qual d.params d.body d.scope [] [] (He.fAd K d.key) fd → FnI P w K mg base k (He.fAd K d.key) fd d.ps (spI K (run (Fns Ds) wh k) d.fn.ar i) := by
  have zero : ∀ (i : Nat) (d : DefI) fd, FnI P w K mg base 0 (He.fAd K d.key) fd d.ps (spI K (run (Fns Ds) wh 0) d.fn.ar i) := fun i d fd =>
    ⟨(fun vs H Q h => by obtain ⟨_, _, _, _, _, _, _, _, q, _⟩ := h; cases q), (fun _ _ _ _ _ _ _ _ _ _ _ _ _ h => by obtain ⟨_, _, _, _, _, _, _, _, q, _⟩ := h; cases q)⟩
  intro n
  induction n with
  | zero =>
    intro k hk i d fd hi D
    cases Nat.le_zero.mp hk
    exact zero i d fd
  | succ n ih =>
    intro k hk i d fd hi D
    rcases Nat.lt_or_ge n k with hlt | hge
    case inr => exact ih k hge i d fd hi D
    obtain rfl : k = n + 1 := by omega
    obtain ⟨s1, s2, s3⟩ := T.sc i d hi
    refine fnI_of D s1 (fns_get hi) s2 s3 fun cdv A outer s H hr ok => bodies i d hi n _ cdv A outer s H ⟨ok, fun j e hj hc => ?_, fun j e m ks pm hj hc hkw => ?_, fun j e x hj hc hx => ?_, fun j e x hj hc hx => ?_⟩
    · obtain ⟨fd2, D2, hb2⟩ := T.dfn j e hj
      exact ⟨run_ar (fns_get hj), _, fd2, e.ps, n, T.glo j e hj hc, D2.kp, hb2, hr, ih n (Nat.le_refl _) j e fd2 hj D2⟩
    · obtain ⟨fd2, D2, hb2⟩ := T.dfn j e hj
      have G := ih n (Nat.le_refl _) j e fd2 hj D2
      have kp := D2.kp
      refine ⟨run_ar (fns_get hj), _, fd2, e.ps, n, T.glo j e hj hc, kp, fun s us ws h1 h2 => ?_, hr, G⟩
      obtain ⟨oc, od, dV, kV, doc, pmv, an, cdv2, ct, osl, rfl, lk, hcd, hD, hK⟩ := D2.ex
      rcases hD with ⟨_, rfl⟩ | ⟨z, _⟩
      · exact .of_eq (hkw kV doc pmv an cdv2 ct us ws h1 h2)
      · exact absurd rfl z
    · obtain ⟨fd2, D2, hb2⟩ := T.dfn j e hj
      obtain ⟨c, m⟩ := T.mth j e x hj hc hx
      exact ⟨run_ar (fns_get hj), c, _, fd2, e.ps, n, m, hb2, hr, ih n (Nat.le_refl _) j e fd2 hj D2⟩
    · obtain ⟨fd2, D2, hb2⟩ := T.dfn j e hj
      obtain ⟨c, m⟩ := T.mak j e x hj hc hx
      cases n with
      | zero => exact ⟨fun ds S r h => (nomatch h), c, fun ds S r h => (nomatch h)⟩
      | succ n =>
        refine ⟨fun ds S r h => run_ar (fns_get hj) ds S r (by rw [← run_make_at]; exact h), c, fun ds S r h => ⟨_, fd2, e.ps, n, m, hb2, hr, (ih n (Nat.le_succ _) j e fd2 hj D2).weak fun vs H Q q => ?_⟩⟩
        obtain ⟨S1, μ1, ds1, d1, S2, q1, q2, q3, q4, q5⟩ := q
        exact ⟨S1, μ1, ds1, d1, S2, q1, q2, q3, by rw [← run_make_at]; exact q4, q5⟩
end

theorem law_I {P : Program} {w : World} {K : PySem.W.Frag} {mg mb : Str → Option Value} {k fi : Nat} {F : CF} {fa a : Addr} {fd : FuncData} {x : Str} {s1 : Shared} {vs : List Value} {ns : List Int}
    (KX : K.In s1.heap) (hns : s1.heap.Ns mainGlobals mg) (hb : s1.heap.Ns builtinsNs mb) (hbb : ∀ x : Str, x ≠ "__name__" → mb x = bootBuiltins x) (hlim : s1.heap.NoLimit) (hg : s1.gens = #[])
    (ha : s1.heap.get? a = some { cls := .type "list", data := .seq vs.toArray }) (hi : IntsAre vs ns) (hl : ns.length ≤ sizeLine) (hr : Room k callerA)
    (G : ∀ base : Heap, K.In base → base.Ns mainGlobals mg → FnI P w K mg base k fa fd [x] (spI K F 1 fi)) (hbind : ∀ (s : Shared) (u : Value), BindsTo s fd ⟨[u], []⟩ [(x, u)])
    (hrun : ∃ S', F fi [.lst (ns.map D.int)] [] = some (.bl true, S')) :
    codeAny (model P w) callerA (.call (.ref fa) ⟨[.ref a], []⟩) (fun r s' => r = .ok (.ret (.bool true)) ∧ OldK s1.heap s'.heap ∧ s'.os = s1.os ∧ AllBare s'.gens) s1 := by
  have rv := vals_ints hi
  have lenV := hi.length
  have good0 : ∀ H : Hp, Good K [] ⟨[], []⟩ H := fun H => ⟨rfl, fun i xs q => by simp at q, fun i j xs ys a q => by simp at q, fun a ha => by simp at ha, fun a ha => by simp at ha⟩
  have repsI : ∀ (H : Hp) (ns : List Int), Reps K [] ⟨[], []⟩ H (ns.map D.int) (ns.map V.int) := fun H ns => by
    induction ns with
    | nil => rfl
    | cons n ns ih => exact ⟨_, _, rfl, rfl, ih⟩
  have noLive : ∀ b, ¬ Live [] ⟨[], []⟩ b := fun b l => by
    rcases l with ⟨i, xs, q, _⟩ | l
    · simp at q
    · simp at l
  obtain ⟨S', hrun⟩ := hrun
  have core : ∀ H : Hp, L2.Only H → ((Rd H a (.lst (ns.map V.int)) ∧ ¬ Live [] ⟨[], []⟩ a) ∨ KL K a (ns.map V.int)) → HOk P w H s1.heap → (∀ b, H b ≠ none → b = a) → (H a ≠ none → K.lookup a = none) →
      codeAny (model P w) callerA (.call (.ref fa) ⟨[.ref a], []⟩) (fun r s' => r = .ok (.ret (.bool true)) ∧ OldK s1.heap s'.heap ∧ s'.os = s1.os ∧ AllBare s'.gens) s1 := by
    intro H hO hS hok hA hK
    have dictFree : ∀ {b : Addr} {o : Obj} {es : Array DictEntry} {ep : Nat}, s1.heap.get? b = some o → o.data = .dict es ep → H b = none := by
      intro b o es ep q dd
      cases hb' : H b with
      | none => rfl
      | some u =>
        have eb := hA b (by rw [hb']; simp)
        subst eb
        rw [ha] at q
        cases q
        cases (show Data.seq vs.toArray _ = Data.dict es ep from dd)
    have keepNs : ∀ {b : Addr} {m : Str → Option Value}, s1.heap.Ns b m → (hidT s1.heap H).Ns b m := fun {b m} ⟨o, es, ep, q, dd, r⟩ => ⟨o, es, ep, hidT_get q (dictFree q dd), dd, r⟩
    have keepK : K.In (hidT s1.heap H) := by
      intro b o q
      refine hidT_get (KX b o q) ?_
      cases hb' : H b with
      | none => rfl
      | some u =>
        have eb := hA b (by rw [hb']; simp)
        subst eb
        rw [hK (by rw [hb']; simp)] at q
        cases q
    have hM : Mod K mg (hidT s1.heap H) := ⟨keepK, keepNs hns, ⟨mb, keepNs hb, hbb⟩, let ⟨mc, h1, h2⟩ := hlim; ⟨mc, keepNs h1, h2⟩⟩
    have e0 : Env0 P w K mg (hidT s1.heap H) callerA [] s1 H := ⟨rfl, hM, fun b o q => of_hidT q, Nat.le_of_eq (hidT_size _ _), trivial, fun b hb => by simp [frs] at hb, hok, .of_eq hg⟩
    have hq : spI K F 1 fi [.ref a] H (fun v _ => v = .bl true) := ⟨[], ⟨[], []⟩, [.lst (ns.map D.int)], .bl true, S', good0 H, ⟨.ref a, [], rfl, ⟨a, _, rfl, hS, repsI H ns⟩, rfl⟩, rfl, hrun, fun v μ' H' _ _ rv => rv⟩
    refine codeAny_mono ((G _ keepK (keepNs hns)).run callerA [] s1 H ⟨[.ref a], []⟩ [.ref a] [.ref a] _ hr rfl e0 (hbind s1 (.ref a)) (.cons rfl .nil) hq) fun r s' h => ?_
    cases r with
    | error e => exact False.elim h
    | ok fl =>
      cases fl with
      | next => exact False.elim h
      | brk => exact False.elim h
      | cont => exact False.elim h
      | ret u =>
        obtain ⟨v, H', os, bare, un, hok', r', q⟩ := h
        cases (show v = .bl true from q)
        cases (show u = Value.bool true from r')
        refine ⟨rfl, OldK.of_keep fun b o e => ?_, os, bare⟩
        cases q : H b with
        | none => exact un.keep b o e q (by simp [frs]) (by simp)
        | some u =>
          rcases hO b with z | ⟨ob, xs, z⟩
          · rw [q] at z; cases z
          · obtain ⟨e1, _⟩ := hok b _ z
            obtain ⟨e2, _⟩ := hok' b _ (un.frzs b ob _ z)
            rw [e] at e1; cases e1
            exact e2
  cases hk : K.lookup a with
  | some o =>
    have e := KX a o hk
    rw [ha] at e
    cases e
    exact core (fun _ => none) (fun _ => .inl rfl) (.inr ⟨vs, 0, hk, by rw [lenV]; exact hl, rv⟩) (fun b u z => by cases (show (none : Option HO) = some u from z)) (fun b z => absurd rfl z) fun z => absurd rfl z
  | none =>
    refine core (fun b => if b = a then some (.frz { cls := .type "list", data := .seq vs.toArray } (.lst (ns.map V.int))) else none) (fun b => ?_) (.inl ⟨.inr ⟨{ cls := .type "list", data := .seq vs.toArray }, if_pos rfl⟩, noLive a⟩) (fun b u z => ?_) (fun b z => ?_) fun _ => hk
    · by_cases hb : b = a
      · exact .inr ⟨_, _, if_pos hb⟩
      · exact .inl (if_neg hb)
    · by_cases hb : b = a
      · cases (if_pos hb).symm.trans z
        subst hb
        exact ⟨ha, by rw [List.length_map]; exact hl, vs, _, rv, ha⟩
      · cases (if_neg hb).symm.trans z
    · by_cases hb : b = a
      · exact hb
      · exact absurd (if_neg hb) z
theorem walk_I {l : PySem.W.OpenLaw} {n k fi : Nat} {q : Program} {loose : List Str} {XP : (Str → Option Value) → Heap → Prop} {YP : World → Heap → Prop} {d : DefRec} {F : CF} {x : Str} (hn : l.most = some n) (hn2 : n ≤ sizeLine) (hdf : d.params.defaults = []) (hr : Room k callerA)
    (G : ∀ (w : World) (mg : Str → Option Value) (fa : Addr) (h : Heap), YP w h → h.Ns mainGlobals mg → mg d.name = some (.ref fa) → ∃ (K : PySem.W.Frag) (fd : FuncData), K.In h ∧ (∀ (s : Shared) (u : Value), BindsTo s fd ⟨[u], []⟩ [(x, u)]) ∧
      ∀ base : Heap, K.In base → base.Ns mainGlobals mg → FnI l.prog w K mg base k fa fd [x] (spI K F 1 fi))
    (hrun : ∀ ns : List Int, ns.length ≤ n → ∃ S', F fi [.lst (ns.map D.int)] [] = some (.bl true, S')) : PySem.W.WalkO q loose XP YP l.row.toRowW d [] (fun f vs => PySem.call f vs) := by
  refine Att.attach_call hn hdf fun w s0 s1 mg mb fa o pm cd doc a vs ns Gr Y ho hd hcd hmg hobj hints hlen hg => ?_
  obtain ⟨K, fd, KX, hb, hF⟩ := G w mg fa _ Y Gr.T.g hmg
  exact law_I KX Gr.T.g Gr.T.b Gr.T.builtins Gr.T.nolimit hg hobj hints (Nat.le_trans hlen hn2) hr hF hb (hrun ns hlen)
end Iv

set_option Elab.async false
set_option linter.all false
set_option maxRecDepth 100000
set_option maxHeartbeats 4000000
namespace Iv
open PySem PySem.Spec PyProof.Rows L2
def isSq (nm : String) (nd : Bool) (K : PySem.W.Frag) (a : Addr) : Option (List Value) := match K.lookup a with
  | some ⟨.type c, od, .seq its _, _⟩ => if c = nm ∧ its.size ≤ sizeLine ∧ (nd = true → od = none) then some its.toList else none
  | _ => none
theorem isSq_ok {nm : String} {nd : Bool} {K : PySem.W.Frag} {a : Addr} {us : List Value} (h : isSq nm nd K a = some us) :
    ∃ (o : Obj) (its : Array Value) (n : Nat), K.lookup a = some o ∧ o.cls = .type nm ∧ (nd = true → o.dict = none) ∧ o.data = .seq its n ∧ its.size ≤ sizeLine ∧ its.toList = us := by
  unfold isSq at h
  split at h
  · rename_i c od its m sl q
    split at h
    · rename_i hc
      obtain ⟨h1, h2, h3⟩ := hc
      cases h
      exact ⟨_, its, m, q, congrArg Value.type h1, h3, rfl, h2, rfl⟩
    · cases h
  · cases h
def isLs (K : PySem.W.Frag) (a : Addr) : Option (List Value) := match K.lookup a with
  | some ⟨.type c, none, .seq its _, sl⟩ => if c = "list" ∧ its.size ≤ sizeLine ∧ sl = #[] then some its.toList else none
  | _ => none
theorem isLs_ok {K : PySem.W.Frag} {a : Addr} {us : List Value} (h : isLs K a = some us) : ∃ n, K.lookup a = some { cls := .type "list", data := .seq us.toArray n } ∧ us.length ≤ sizeLine := by
  unfold isLs at h
  split at h
  · rename_i c its m sl q
    split at h
    · rename_i hc
      obtain ⟨h1, h2, h3⟩ := hc
      cases h
      subst h1
      subst h3
      exact ⟨m, by rw [q], by simpa using h2⟩
    · cases h
  · cases h
mutual
def gB (K : PySem.W.Frag) : D → Value → Bool
  | .non, .none => true
  | .bl b, .bool c => decide (b = c)
  | .int i, .int j _ => decide (i = j)
  | .str x, .str y _ => decide (x = y)
  | .tup ds, .ref a => (match isSq "tuple" false K a with
    | some us => gBs K ds us
    | none => false)
  | .lst ds, .ref a => (match isLs K a with
    | some us => gBs K ds us
    | none => false)
  | _, _ => false
def gBs (K : PySem.W.Frag) : List D → List Value → Bool
  | [], [] => true
  | d :: ds, u :: us => gB K d u && gBs K ds us
  | _, _ => false
end
mutual
theorem gB_ok {K : PySem.W.Frag} : ∀ (d : D) (u : Value), gB K d u = true → ∃ v, RelV v u ∧ ∀ S μ H, Rep K S μ H d v
  | .non, .none, _ => ⟨.non, rfl, fun _ _ _ => rfl⟩
  | .bl b, .bool c, h => ⟨.bl b, congrArg Value.bool (of_decide_eq_true h).symm, fun _ _ _ => rfl⟩
  | .int i, .int j t, h => ⟨.int i, ⟨t, by rw [of_decide_eq_true (show decide (i = j) = true from h)]⟩, fun _ _ _ => rfl⟩
  | .str x, .str y t, h => ⟨.str x, ⟨t, by rw [of_decide_eq_true (show decide (x = y) = true from h)]⟩, fun _ _ _ => rfl⟩
  | .tup ds, .ref a, h => by
    simp only [gB] at h
    split at h
    · rename_i us q
      obtain ⟨o, its, n, k1, k2, k3, k4, k5, k6⟩ := isSq_ok q
      obtain ⟨vs, r, s⟩ := gBs_ok ds us h
      exact ⟨.ref a, rfl, fun S μ H => ⟨a, vs, rfl, .inr ⟨o, its, n, k1, k2, k4, k5, by rw [k6]; exact r⟩, s S μ H⟩⟩
    · cases h
  | .lst ds, .ref a, h => by
    simp only [gB] at h
    split at h
    · rename_i us q
      obtain ⟨n, k1, k2⟩ := isLs_ok q
      obtain ⟨vs, r, s⟩ := gBs_ok ds us h
      exact ⟨.ref a, rfl, fun S μ H => ⟨a, vs, rfl, .inr ⟨us, n, k1, k2, r⟩, s S μ H⟩⟩
    · cases h
  | .ref _, u, h => by simp [gB] at h
theorem gBs_ok {K : PySem.W.Frag} : ∀ (ds : List D) (us : List Value), gBs K ds us = true → ∃ vs, Vals vs us ∧ ∀ S μ H, Reps K S μ H ds vs
  | [], [], _ => ⟨[], .nil, fun _ _ _ => rfl⟩
  | d :: ds, u :: us, h => by
    obtain ⟨h1, h2⟩ := Bool.and_eq_true_iff.mp (show (gB K d u && gBs K ds us) = true from h)
    obtain ⟨v, r, k⟩ := gB_ok d u h1
    obtain ⟨vs, rs, ks⟩ := gBs_ok ds us h2
    exact ⟨v :: vs, .cons r rs, fun S μ H => ⟨v, vs, rfl, k S μ H, ks S μ H⟩⟩
  | [], _ :: _, h => by simp [gBs] at h
  | _ :: _, [], h => by simp [gBs] at h
end
def gbx (K : PySem.W.Frag) (x : Str) (d : D) : Bool := match PySem.W.nsIn K mainGlobals x with
  | some (some u) => gB K d u
  | _ => false
theorem glob_of {K : PySem.W.Frag} {h : Heap} {mg : Str → Option Value} (X : K.In h) (G : h.Ns mainGlobals mg) {x : Str} {d : D} (q : gbx K x d = true) : GlobOk K mg x d := by
  unfold gbx at q
  split at q
  · rename_i u e
    obtain ⟨v, r, s⟩ := gB_ok d u q
    exact ⟨u, v, PySem.W.mg_of X G e, r, s⟩
  · cases q
def DefI.he (d : DefI) : He.DefD := ⟨d.key, d.name, d.qual, d.params, d.body, d.scope, [], []⟩
/-- a def binds its arguments by place -/
def BindN (d : DefI) : Prop := ∀ (kV doc pm : Value) (an : Option Addr) (cdv ct : Value) (us : List Value), us.length = d.ps.length → bindArgs (PySem.W.fnOf d.name d.qual d.params d.body d.scope .none kV doc pm an cdv ct) ⟨us, []⟩ = pure (d.ps.zip us)
/-- what the head must have looked at for this def -/
def DefI.fa (d : DefI) : List He.Fa := match d.cls with
  | none => [.glo d.name]
  | some x => if d.name = "__init__" then [.glo x, .mkr x] else [.cls x, .meth x d.name]
def faEq : He.Fa → He.Fa → Bool
  | .glo x, .glo y => decide (x = y)
  | .cls x, .cls y => decide (x = y)
  | .mkr x, .mkr y => decide (x = y)
  | .meth x m, .meth y k => decide (x = y) && decide (m = k)
  | _, _ => false
theorem faEq_ok : ∀ a b : He.Fa, faEq a b = true → a = b := fun a b h => by
  cases a <;> cases b <;> first | (simp [faEq] at h; done) | (simp only [faEq, Bool.and_eq_true, decide_eq_true_eq] at h; first | (rw [h]) | (rw [h.1, h.2]))
theorem fa_all {Ds : List DefI} {fa : List He.Fa} (h : (Ds.all fun d => d.fa.all fun f => fa.any fun g => faEq f g) = true) : ∀ d ∈ Ds, ∀ f ∈ d.fa, f ∈ fa := fun d hd f hf => by
  obtain ⟨g, hg, e⟩ := List.any_eq_true.mp (List.all_eq_true.mp (List.all_eq_true.mp h d hd) f hf)
  rw [faEq_ok f g e]
  exact hg
theorem topOk_of {K : PySem.W.Frag} {h : Heap} {w : World} {mg : Str → Option Value} {Ds : List DefI} {fa : List He.Fa} {ex : PySem.W.Frag → Bool} (X : K.In h) (G : h.Ns mainGlobals mg) (c : He.SaysX fa (Ds.map DefI.he) [] [] ex w h K)
    (hfa : ∀ d ∈ Ds, ∀ f ∈ d.fa, f ∈ fa) (hb : ∀ (i : Nat) (d : DefI), Ds[i]? = some d → BindN d) (hs : ∀ (i : Nat) (d : DefI), Ds[i]? = some d → FnScope d.N d.ps d.scope ∧ d.fn.ar = d.ps.length ∧ d.fn.sl = d.N.length) : TopOk K mg Ds := by
  have fact : ∀ (d : DefI) (f : He.Fa), d ∈ Ds → f ∈ d.fa → f.ok K = true := fun d f hm hf => He.SaysD.facts c.t.d (hfa d hm f hf)
  refine ⟨fun i d hi => ?_, fun i d hi hc => ?_, fun i d x hi hc hn => ?_, fun i d x hi hc hn => ?_, hs⟩
  · have hm : d ∈ Ds := List.mem_of_getElem? hi
    obtain ⟨fd, F⟩ := He.SaysD.defs c.t.d (d := d.he) (List.mem_map.mpr ⟨d, hm, rfl⟩)
    have F' : FunD K d.name d.qual d.params d.body d.scope [] [] (He.fAd K d.key) fd := F
    exact ⟨fd, F', F'.bindsN (hb i d hi)⟩
  · have q := He.glo_ok X G (fact d (.glo d.name) (List.mem_of_getElem? hi) (by unfold DefI.fa; rw [hc]; simp))
    rw [q]
    unfold DefI.key
    rw [hc]
    rfl
  · have h1 := He.cls_ok (fact d (.cls x) (List.mem_of_getElem? hi) (by unfold DefI.fa; rw [hc]; simp only [if_neg hn]; simp))
    have h2 := He.meth_ok (fact d (.meth x d.name) (List.mem_of_getElem? hi) (by unfold DefI.fa; rw [hc]; simp only [if_neg hn]; simp))
    refine ⟨h1, ?_⟩
    unfold DefI.key
    rw [hc]
    exact h2
  · have h1 := He.glo_ok X G (fact d (.glo x) (List.mem_of_getElem? hi) (by unfold DefI.fa; rw [hc]; simp only [if_pos hn]; simp))
    have h2 := He.mkr_ok (fact d (.mkr x) (List.mem_of_getElem? hi) (by unfold DefI.fa; rw [hc]; simp only [if_pos hn]; simp))
    refine ⟨h1, ?_⟩
    unfold DefI.key
    rw [hc, hn]
    exact h2
/-- the law's def, by its place -/
theorem law_fd {K : PySem.W.Frag} {mg : Str → Option Value} {Ds : List DefI} {i : Nat} {d : DefI} {x : Str} {f : Addr} (T : TopOk K mg Ds) (hi : Ds[i]? = some d) (hc : d.cls = none) (hp : d.ps = [x]) (hb : BindN d) (hm : mg d.name = some (.ref f)) :
    ∃ fd, f = He.fAd K d.key ∧ FunD K d.name d.qual d.params d.body d.scope [] [] (He.fAd K d.key) fd ∧ ∀ (s : Shared) (v : Value), BindsTo s fd ⟨[v], []⟩ [(x, v)] := by
  obtain ⟨fd, F, _⟩ := T.dfn i d hi
  have h1 := T.glo i d hi hc
  cases hm.symm.trans h1
  refine ⟨fd, rfl, F, fun s v => ?_⟩
  have b := F.bindsA (ps := [x]) (fun kV doc pm an cdv ct us hl => by
    have z := hb kV doc pm an cdv ct us (by rw [hp]; exact hl)
    rw [hp] at z
    exact z) s [v] rfl
  exact b
end Iv

set_option Elab.async false
set_option linter.all false
set_option maxRecDepth 100000
set_option maxHeartbeats 4000000
namespace Iv
open PySem
variable {T : List Fn} {w n : Nat}
theorem run_rt {f : Nat} {fn : Fn} {ds : List D} {S S1 : Sto} {d : D} (h : T[f]? = some fn) (hl : ds.length = fn.ar) (e : exs (run T w n) w fn.body (ds.map some ++ List.replicate (fn.sl - fn.ar) none) S = some (.rt d, S1)) : run T w (n + 1) f ds S = some (d, leave S.length d S1) := by
  simp only [run, h, hl, if_true, e]
theorem run_nx {f : Nat} {fn : Fn} {ds : List D} {S S1 : Sto} {ρ : Env} (h : T[f]? = some fn) (hl : ds.length = fn.ar) (e : exs (run T w n) w fn.body (ds.map some ++ List.replicate (fn.sl - fn.ar) none) S = some (.nx ρ, S1)) : run T w (n + 1) f ds S = some (.non, leave S.length .non S1) := by
  simp only [run, h, hl, if_true, e]
theorem op_add {i j : Int} : opD .Add (.int i) (.int j) = some (.int (i + j)) := rfl
theorem op_sub {i j : Int} : opD .Sub (.int i) (.int j) = some (.int (i - j)) := rfl
theorem pw_small2 {i : Int} (h : i.natAbs < 2 ^ 200) : i.natAbs < 2 ^ 8000 := Nat.lt_of_lt_of_le h (Nat.pow_le_pow_right (by decide) (by decide))
theorem op_mul {i j : Int} (h1 : i.natAbs < 2 ^ 63) : opD .Mult (.int i) (.int j) = some (.int (i * j)) := by
  show (if _ then _ else _) = _
  rw [if_pos (by rw [decide_eq_true h1]; rfl)]
theorem op_div {i j : Int} (h1 : 0 < j) (h2 : j.natAbs < 2 ^ 200) : opD .FloorDiv (.int i) (.int j) = some (.int (i / j)) := by
  show (if _ then _ else _) = _
  rw [if_pos (by rw [decide_eq_true h1, decide_eq_true (pw_small2 h2)]; rfl)]
theorem op_mod {i j : Int} (h1 : 0 < j) : opD .Mod (.int i) (.int j) = some (.int (i % j)) := by
  show (if _ then _ else _) = _
  rw [if_pos (decide_eq_true h1)]
theorem op_pow {i j : Int} (h1 : 0 ≤ j) (h2 : j ≤ 1000) (h3 : i.natAbs < 2 ^ 64) : opD .Pow (.int i) (.int j) = some (.int (i ^ j.toNat)) := by
  show (if _ then _ else _) = _
  rw [if_pos (by rw [decide_eq_true h1, decide_eq_true h2, decide_eq_true h3]; rfl)]
theorem pures_ints : ∀ c : List Int, D.pures (c.map D.int) = true
  | [] => rfl
  | _ :: c => by simp [D.pures, D.pure, pures_ints c]
theorem pys_ints : ∀ c : List Int, D.pys (c.map D.int) = c.map PyData.int
  | [] => rfl
  | _ :: c => by simp [D.pys, D.py, pys_ints c]
theorem lay_ints : ∀ c : List Int, PyData.canLayAll0 (c.map PyData.int) = true
  | [] => rfl
  | _ :: c => by simp [PyData.canLayAll0, PyData.canLay0, lay_ints c]
theorem depth_ints : ∀ c : List Int, PyData.depthAll (c.map PyData.int) = 0
  | [] => rfl
  | _ :: c => by simp [PyData.depthAll, PyData.depth, depth_ints c]
theorem ok_ints (c : List Int) : D.ok (.lst (c.map D.int)) = true := by
  simp [D.ok, D.pure, D.py, PyData.canLay0, PyData.depth, pures_ints, pys_ints, lay_ints, depth_ints]
theorem ok_nil : D.ok (.lst []) = true := rfl
theorem eqv_nil (xs : List D) : D.eqv (.lst xs) (.lst []) = xs.isEmpty := by
  cases xs <;> simp [D.eqv, D.py, D.pys, PyData.eqv, PyData.eqvAll]

/-- the shelf: the script's cells, how many were read, what is held -/
def shelf (c : List Int) (t h : Int) : List D := [.lst (c.map D.int), .int t, .int h]
/-- the last part: mixed -/
def mixB (c1 p1 m2 p2 k m1 p3 : Int) : Ss := (.cons (.asg (.n 4) (.op .Mod (.bi .int (.cons (.op .Pow (.op .Add (.op .Add (.op .Mod (.bi .int (.cons (.v 3) .nil)) (.c (.int p1))) (.op .Mult (.c (.int m2)) (.v 2))) (.c (.int c1))) (.c (.int 5))) .nil)) (.c (.int p2)))) (.cons (.asg (.n 4) (.op .Mod (.bi .int (.cons (.op .Pow (.op .Add (.op .Add (.op .Mult (.v 4) (.op .Add (.op .Mult (.c (.int 2)) (.v 2)) (.c (.int k)))) (.op .Mult (.op .Mult (.c (.int m1)) (.v 2)) (.v 2))) (.c (.int m2))) (.c (.int 3))) .nil)) (.c (.int p3)))) (.cons (.ret (.op .Mod (.bi .int (.cons (.op .FloorDiv (.v 4) (.c (.int 64))) .nil)) (.v 1))) .nil)))
def heldB : Ss := (.cons (.put (.v 0) (.c (.int 2)) (.op .FloorDiv (.bi .int (.cons (.v 5) .nil)) (.v 1))) (.cons (.ret (.op .Mod (.bi .int (.cons (.v 5) .nil)) (.v 1))) .nil))
def bigB : St := (.ifs (.and (.cmp .Lt (.v 2) (.bi .len (.cons (.ix (.v 0) (.c (.int 0))) .nil))) (.cmp .GtE (.bi .abs (.cons (.v 3) .nil)) (.op .Pow (.c (.int 10)) (.c (.int 18))))) (.cons (.asg (.n 5) (.op .Add (.op .Mult (.c (.int 2)) (.op .Sub (.bi .abs (.cons (.v 3) .nil)) (.op .Pow (.c (.int 10)) (.c (.int 18))))) (.bi .int (.cons (.cmp .Lt (.v 3) (.c (.int 0))) .nil)))) heldB) .nil)
def cellB : St := (.ifs (.cmp .NotEq (.ix (.v 0) (.c (.int 0))) (.lst .nil)) (.cons (.asg (.n 3) (.ix (.ix (.v 0) (.c (.int 0))) (.op .Mod (.bi .int (.cons (.v 2) .nil)) (.bi .len (.cons (.ix (.v 0) (.c (.int 0))) .nil))))) .nil) .nil)
theorem isObj_shelf (c : List Int) (t h : Int) : isObj (shelf c t h) = false := rfl
theorem sh0 (c : List Int) (t h : Int) : ixD (.lst (shelf c t h)) (.int 0) = some (.lst (c.map D.int)) := rfl
theorem sh1 (c : List Int) (t h : Int) : ixD (.lst (shelf c t h)) (.int 1) = some (.int t) := rfl
theorem sh2 (c : List Int) (t h : Int) : ixD (.lst (shelf c t h)) (.int 2) = some (.int h) := rfl
def reachB (m1 c1 p1 m2 p2 k p3 : Int) : Ss := (.cons (.ifs (.cmp .Gt (.ix (.v 0) (.c (.int 2))) (.c (.int 0))) (.cons (.asg (.n 5) (.ix (.v 0) (.c (.int 2)))) heldB) .nil) (.cons (.asg (.n 2) (.ix (.v 0) (.c (.int 1)))) (.cons (.put (.v 0) (.c (.int 1)) (.op .Add (.v 2) (.c (.int 1)))) (.cons (.asg (.n 3) (.op .Add (.op .Mult (.c (.int m1)) (.v 2)) (.c (.int c1)))) (.cons cellB (.cons bigB (mixB c1 p1 m2 p2 k m1 p3)))))))
/-- the numbers that a drawing is made with -/
structure NumsOk (m1 c1 p1 m2 p2 k p3 : Int) : Prop where
  h1 : 0 ≤ m1 ∧ m1 < 2 ^ 20
  h2 : 0 ≤ c1 ∧ c1 < 2 ^ 20
  h3 : 0 < p1 ∧ p1 < 2 ^ 32
  h4 : 0 ≤ m2 ∧ m2 < 2 ^ 20
  h5 : 0 < p2 ∧ p2 < 2 ^ 32
  h6 : 0 ≤ k ∧ k < 2 ^ 20
  h7 : 0 < p3 ∧ p3 < 2 ^ 32
theorem atI_nat {α : Type} {xs : List α} {i : Nat} (h : i < xs.length) : L2.atI xs (i : Int) = xs[i]? := by
  unfold L2.atI L2.ixN
  rw [if_pos (Int.natCast_nonneg i), if_pos (by omega)]
  rfl
section
variable {F : CF} {c : List Int} {R : Sto} {ρ : Env}
/-- what is held is used up -/
theorem held_ok {many t h x : Int} {a2 a3 a4 : Option D} (hm : 0 < many) (hmb : many < 2 ^ 63) :
    exs F w heldB [some (.ref 0), some (.int many), a2, a3, a4, some (.int x)] (some (shelf c t h) :: R) = some (.rt (.int (x % many)), some (shelf c t (x / many)) :: R) := by
  have e1 : opD .FloorDiv (.int x) (.int many) = some (.int (x / many)) := op_div hm (by omega)
  have e2 : opD .Mod (.int x) (.int many) = some (.int (x % many)) := op_mod hm
  simp [heldB, exs, ex, ev, evs, see, seeAll, biD, e1, e2, shelf, L2.ixN, D.pure, isObj]
theorem mul_b {a b A B : Int} (h1 : 0 ≤ a) (h2 : a ≤ A) (h3 : 0 ≤ b) (h4 : b ≤ B) : 0 ≤ a * b ∧ a * b ≤ A * B :=
  ⟨Int.mul_nonneg h1 h3, Int.mul_le_mul h2 h4 h3 (by omega)⟩
theorem mix_ok {m1 c1 p1 m2 p2 k p3 many t cell : Int} {a4 a5 : Option D} {S : Sto} (K : NumsOk m1 c1 p1 m2 p2 k p3) (hm : 0 < many) (t0 : 0 ≤ t) (t1 : t ≤ 1000000) :
    ∃ r : Int, 0 ≤ r ∧ r < many ∧ exs F w (mixB c1 p1 m2 p2 k m1 p3) [some (.ref 0), some (.int many), some (.int t), some (.int cell), a4, a5] S = some (.rt (.int r), S) := by
  obtain ⟨⟨k1, k2⟩, ⟨k3, k4⟩, ⟨k5, k6⟩, ⟨k7, k8⟩, ⟨k9, k10⟩, ⟨k11, k12⟩, ⟨k13, k14⟩⟩ := K
  have b1 := Int.emod_nonneg cell (show p1 ≠ 0 by omega)
  have b2 := Int.emod_lt_of_pos cell k5
  obtain ⟨b3, b4⟩ := mul_b k7 (Int.le_of_lt k8) t0 t1
  generalize hx : cell % p1 + m2 * t + c1 = x
  have hx1 : x.natAbs < 2 ^ 64 := by omega
  generalize hy : x ^ 5 % p2 = y
  have b5 : 0 ≤ y := hy ▸ Int.emod_nonneg _ (show p2 ≠ 0 by omega)
  have b6 : y < p2 := hy ▸ Int.emod_lt_of_pos _ k9
  obtain ⟨b7, b8⟩ := mul_b b5 (show y ≤ 2 ^ 32 by omega) (show 0 ≤ 2 * t + k by omega) (show 2 * t + k ≤ 2000000 + 2 ^ 20 by omega)
  obtain ⟨b9, b10⟩ := mul_b k1 (Int.le_of_lt k2) t0 t1
  obtain ⟨b11, b12⟩ := mul_b b9 b10 t0 t1
  generalize hz : y * (2 * t + k) + m1 * t * t + m2 = z
  have hz1 : z.natAbs < 2 ^ 64 := by omega
  have e1 : opD .Mod (.int cell) (.int p1) = some (.int (cell % p1)) := op_mod k5
  have e2 : opD .Mult (.int m2) (.int t) = some (.int (m2 * t)) := op_mul (by omega)
  have e3 : opD .Pow (.int x) (.int 5) = some (.int (x ^ 5)) := op_pow (by decide) (by decide) hx1
  have e4 : opD .Mod (.int (x ^ 5)) (.int p2) = some (.int y) := by rw [op_mod k9, hy]
  have e5 : opD .Mult (.int y) (.int (2 * t + k)) = some (.int (y * (2 * t + k))) := op_mul (by omega)
  have e6 : opD .Mult (.int 2) (.int t) = some (.int (2 * t)) := op_mul (by decide)
  have e7 : opD .Mult (.int m1) (.int t) = some (.int (m1 * t)) := op_mul (by omega)
  have e8 : opD .Mult (.int (m1 * t)) (.int t) = some (.int (m1 * t * t)) := op_mul (by omega)
  have e9 : opD .Pow (.int z) (.int 3) = some (.int (z ^ 3)) := op_pow (by decide) (by decide) hz1
  have e10 : opD .Mod (.int (z ^ 3)) (.int p3) = some (.int (z ^ 3 % p3)) := op_mod k13
  have e11 : opD .FloorDiv (.int (z ^ 3 % p3)) (.int 64) = some (.int (z ^ 3 % p3 / 64)) := op_div (by decide) (by decide)
  have e12 : opD .Mod (.int (z ^ 3 % p3 / 64)) (.int many) = some (.int (z ^ 3 % p3 / 64 % many)) := op_mod hm
  refine ⟨z ^ 3 % p3 / 64 % many, Int.emod_nonneg _ (by omega), Int.emod_lt_of_pos _ hm, ?_⟩
  simp [mixB, exs, ex, ev, evs, see, seeAll, biD, e1, e2, op_add, hx, e3, e4, e5, e6, e7, e8, hz, e9, e10, e11, e12, setT]
/-- a cell is chosen -/
theorem cell_ok {many t t2 x : Int} {a4 a5 : Option D} {h : Int} (t0 : 0 ≤ t) :
    ∃ y : Int, ex F w cellB [some (.ref 0), some (.int many), some (.int t), some (.int x), a4, a5] (some (shelf c t2 h) :: R) = some (.nx [some (.ref 0), some (.int many), some (.int t), some (.int y), a4, a5], some (shelf c t2 h) :: R) := by
  have z1 : cmpD .NotEq (.lst (c.map D.int)) (.lst []) = some (!c.isEmpty) := by
    show (if _ then _ else _) = _
    rw [if_pos (by rw [ok_ints, ok_nil]; rfl), eqv_nil]
    cases c <;> rfl
  cases hc : c.isEmpty with
  | true =>
    rw [hc] at z1
    exact ⟨x, by simp [cellB, exs, ex, ev, evs, see, isObj_shelf, sh0, small, z1]⟩
  | false =>
    rw [hc] at z1
    have hl : 0 < c.length := by cases c with | nil => cases hc | cons a r => simp
    have q1 := Int.emod_nonneg t (show (c.length : Int) ≠ 0 by omega)
    have q2 := Int.emod_lt_of_pos t (show (0 : Int) < c.length by omega)
    obtain ⟨j, hj⟩ := Int.eq_ofNat_of_zero_le q1
    have hj2 : j < c.length := by omega
    have z2 : opD .Mod (.int t) (.int (c.length : Int)) = some (.int (j : Int)) := by rw [op_mod (by omega), hj]
    have z3 : ixD (.lst (c.map D.int)) (.int (j : Int)) = some (.int c[j]) := by
      show L2.atI (c.map D.int) (j : Int) = _
      rw [atI_nat (by simpa using hj2), List.getElem?_map, List.getElem?_eq_getElem hj2]
      rfl
    have z6 : biD .len [.lst (c.map D.int)] = some (.int c.length) := by simp [biD]
    have z7 : biD .int [.int t] = some (.int t) := rfl
    exact ⟨c[j], by simp [cellB, exs, ex, ev, evs, see, isObj_shelf, seeAll, z6, z7, sh0, z1, z2, z3, setT, small]⟩
/-- a great cell is held, or nothing is done -/
theorem big_ok {many t t2 x h : Int} {a4 a5 : Option D} (t0 : 0 ≤ t) (hm : 0 < many) (hmb : many < 2 ^ 63) :
    (∃ y : Int, 0 ≤ y ∧ ex F w bigB [some (.ref 0), some (.int many), some (.int t), some (.int x), a4, a5] (some (shelf c t2 h) :: R) = some (.rt (.int (y % many)), some (shelf c t2 (y / many)) :: R)) ∨
    ex F w bigB [some (.ref 0), some (.int many), some (.int t), some (.int x), a4, a5] (some (shelf c t2 h) :: R) = some (.nx [some (.ref 0), some (.int many), some (.int t), some (.int x), a4, a5], some (shelf c t2 h) :: R) := by
  have z1 : opD .Pow (.int 10) (.int 18) = some (.int (10 ^ 18)) := op_pow (by decide) (by decide) (by decide)
  have z5 : (if x < 0 then -x else x) = (x.natAbs : Int) := by split <;> omega
  by_cases hc : t < (c.length : Int)
  · by_cases hx : (10 : Int) ^ 18 ≤ (x.natAbs : Int)
    · refine .inl ⟨2 * ((x.natAbs : Int) - 10 ^ 18) + (if x < 0 then 1 else 0), by split <;> omega, ?_⟩
      have z2 : opD .Mult (.int 2) (.int ((x.natAbs : Int) - 10 ^ 18)) = some (.int (2 * ((x.natAbs : Int) - 10 ^ 18))) := op_mul (by decide)
      have z3 : biD .int [.bl (decide (x < 0))] = some (.int (if x < 0 then 1 else 0)) := by by_cases q : x < 0 <;> simp [biD, q]
      have z4 : biD .abs [.int x] = some (.int (x.natAbs : Int)) := by rw [← z5]; rfl
      have z6 : biD .len [.lst (c.map D.int)] = some (.int c.length) := by simp [biD]
      have z7 : cmpD .Lt (.int t) (.int c.length) = some true := by simp [cmpD, hc]
      have z8 : cmpD .GtE (.int (x.natAbs : Int)) (.int (10 ^ 18)) = some true := congrArg some (decide_eq_true hx)
      have z9 : cmpD .Lt (.int x) (.int 0) = some (decide (x < 0)) := rfl
      simp only [bigB, exs, ex, ev, evs, see, isObj_shelf, Bool.false_eq_true, if_false, seeAll, List.getElem?_cons_zero, List.getElem?_cons_succ, sh0, z6, z7, z4, z1, z8, z9, z2, z3, op_sub, op_add, setT, List.set_cons_succ, List.set_cons_zero, held_ok hm hmb]
    · refine .inr ?_
      have z4 : biD .abs [.int x] = some (.int (x.natAbs : Int)) := by rw [← z5]; rfl
      have z6 : biD .len [.lst (c.map D.int)] = some (.int c.length) := by simp [biD]
      have z7 : cmpD .Lt (.int t) (.int c.length) = some true := by simp [cmpD, hc]
      have z8 : cmpD .GtE (.int (x.natAbs : Int)) (.int (10 ^ 18)) = some false := congrArg some (decide_eq_false hx)
      simp only [bigB, exs, ex, ev, evs, see, isObj_shelf, Bool.false_eq_true, if_false, seeAll, List.getElem?_cons_zero, List.getElem?_cons_succ, sh0, z6, z7, z4, z1, z8]
  · refine .inr ?_
    have z6 : biD .len [.lst (c.map D.int)] = some (.int c.length) := by simp [biD]
    have z7 : cmpD .Lt (.int t) (.int c.length) = some false := by simp [cmpD, hc]
    simp only [bigB, exs, ex, ev, evs, see, isObj_shelf, Bool.false_eq_true, if_false, seeAll, List.getElem?_cons_zero, List.getElem?_cons_succ, sh0, z6, z7]
end
/-- a drawing: a number below many -/
theorem reach_ok {m1 c1 p1 m2 p2 k p3 : Int} {f : Nat} (hT : T[f]? = some ⟨2, 6, reachB m1 c1 p1 m2 p2 k p3⟩) (K : NumsOk m1 c1 p1 m2 p2 k p3) {many t h : Int} {c : List Int} {R : Sto} (hm : 0 < many) (hmb : many < 2 ^ 63) (t0 : 0 ≤ t) (t1 : t ≤ 1000000) (h0 : 0 ≤ h) :
    ∃ r t' h' : Int, 0 ≤ r ∧ r < many ∧ t ≤ t' ∧ t' ≤ t + 1 ∧ 0 ≤ h' ∧ run T w (n + 1) f [.ref 0, .int many] (some (shelf c t h) :: R) = some (.int r, some (shelf c t' h') :: R) := by
  have fin : ∀ {r t' h' : Int}, exs (run T w n) w (reachB m1 c1 p1 m2 p2 k p3) [some (.ref 0), some (.int many), none, none, none, none] (some (shelf c t h) :: R) = some (.rt (.int r), some (shelf c t' h') :: R) →
      run T w (n + 1) f [.ref 0, .int many] (some (shelf c t h) :: R) = some (.int r, some (shelf c t' h') :: R) := fun e => by
    rw [run_rt hT rfl e]
    simp [leave, D.pure]
  by_cases hh : 0 < h
  · refine ⟨h % many, t, h / many, Int.emod_nonneg _ (by omega), Int.emod_lt_of_pos _ hm, by omega, by omega, Int.ediv_nonneg h0 (by omega), fin ?_⟩
    have z1 : cmpD .Gt (.int h) (.int 0) = some true := by simp [cmpD, hh]
    simp only [reachB, exs, ex, ev, evs, see, isObj_shelf, Bool.false_eq_true, if_false, seeAll, List.getElem?_cons_zero, List.getElem?_cons_succ, sh2, z1, setT, List.set_cons_succ, List.set_cons_zero, held_ok hm hmb]
  · have z1 : cmpD .Gt (.int h) (.int 0) = some false := by simp [cmpD, hh]
    have z2 : opD .Mult (.int m1) (.int t) = some (.int (m1 * t)) := op_mul (by have := K.h1; omega)
    have z3 : L2.ixN (shelf c t h).length 1 = some 1 := rfl
    have z4 : (shelf c t h).set 1 (.int (t + 1)) = shelf c (t + 1) h := rfl
    obtain ⟨y, hy⟩ := cell_ok (F := run T w n) (w := w) (c := c) (R := R) (many := many) (t := t) (t2 := t + 1) (x := m1 * t + c1) (a4 := none) (a5 := none) (h := h) t0
    have base : ∀ {o}, exs (run T w n) w (.cons cellB (.cons bigB (mixB c1 p1 m2 p2 k m1 p3))) [some (.ref 0), some (.int many), some (.int t), some (.int (m1 * t + c1)), none, none] (some (shelf c (t + 1) h) :: R) = o →
        exs (run T w n) w (reachB m1 c1 p1 m2 p2 k p3) [some (.ref 0), some (.int many), none, none, none, none] (some (shelf c t h) :: R) = o := fun e => by
      rw [← e]
      simp only [reachB, exs, ex, ev, evs, see, isObj_shelf, Bool.false_eq_true, if_false, seeAll, List.getElem?_cons_zero, List.getElem?_cons_succ, sh1, sh2, z1, z2, op_add, z3, z4, setT, List.set_cons_succ, List.set_cons_zero, D.pure, if_true]
    rcases big_ok (F := run T w n) (w := w) (c := c) (R := R) (t2 := t + 1) (x := y) (a4 := none) (a5 := none) (h := h) t0 hm hmb with ⟨z, q1, q2⟩ | q2
    · exact ⟨z % many, t + 1, z / many, Int.emod_nonneg _ (by omega), Int.emod_lt_of_pos _ hm, by omega, by omega, Int.ediv_nonneg q1 (by omega), fin (base (by simp only [exs, hy, q2]))⟩
    · obtain ⟨r, r0, r1, q3⟩ := mix_ok (F := run T w n) (w := w) (cell := y) (a4 := none) (a5 := none) (S := some (shelf c (t + 1) h) :: R) K hm t0 t1
      exact ⟨r, t + 1, h, r0, r1, by omega, by omega, h0, fin (base (by simp only [exs, hy, q2, q3]))⟩
end Iv

set_option Elab.async false
set_option linter.all false
set_option maxRecDepth 100000
set_option maxHeartbeats 4000000
namespace Iv
open PySem
variable {T : List Fn} {w n : Nat}
theorem leave_same {S S' : Sto} {d : D} (h : S'.length = S.length) : leave S.length d S' = S' := by
  unfold leave
  split
  · exact List.take_of_length_le (by omega)
  · rfl

mutual
theorem under_mono {m k : Nat} (h : m ≤ k) : ∀ d : D, D.under m d = true → D.under k d = true
  | .non, _ => rfl
  | .bl _, _ => rfl
  | .int _, _ => rfl
  | .str _, _ => rfl
  | .tup xs, q => unders_mono h xs q
  | .lst xs, q => unders_mono h xs q
  | .ref i, q => by
    have q' : decide (i < m) = true := q
    exact decide_eq_true (Nat.lt_of_lt_of_le (of_decide_eq_true q') h)
  | .cl _ _, _ => rfl
  | .dct, _ => rfl
theorem unders_mono {m k : Nat} (h : m ≤ k) : ∀ xs : List D, D.unders m xs = true → D.unders k xs = true
  | [], _ => rfl
  | d :: xs, q => by
    have q' : (D.under m d && D.unders m xs) = true := q
    rw [Bool.and_eq_true] at q'
    show (D.under k d && D.unders k xs) = true
    rw [under_mono h d q'.1, unders_mono h xs q'.2]; rfl
end
mutual
theorem pure_under {m : Nat} : ∀ d : D, D.pure d = true → D.under m d = true
  | .non, _ => rfl
  | .bl _, _ => rfl
  | .int _, _ => rfl
  | .str _, _ => rfl
  | .tup xs, q => pures_unders xs q
  | .lst xs, q => pures_unders xs q
  | .ref i, q => by cases q
  | .cl _ _, q => rfl
  | .dct, q => rfl
theorem pures_unders {m : Nat} : ∀ xs : List D, D.pures xs = true → D.unders m xs = true
  | [], _ => rfl
  | d :: xs, q => by
    have q' : (D.pure d && D.pures xs) = true := q
    rw [Bool.and_eq_true] at q'
    show (D.under m d && D.unders m xs) = true
    rw [pure_under d q'.1, pures_unders xs q'.2]; rfl
end
/-- nothing in the store speaks of places that are not there -/
def clo (S : Sto) : Prop := closedS S.length S = true
theorem leave_clo {S X : Sto} {d : D} (h : clo S) (p : D.pure d = true) : leave S.length d (S ++ X) = S := by
  unfold leave
  rw [List.take_left, p, Bool.true_or, Bool.true_and, if_pos (show closedS S.length S = true from h)]
theorem closed_mono {S : Sto} {m k : Nat} (h : m ≤ k) (q : closedS m S = true) : closedS k S = true := by
  unfold closedS at *
  rw [List.all_eq_true] at *
  intro o ho
  have := q o ho
  cases o with
  | none => rfl
  | some xs => exact unders_mono h xs this
theorem run_rtc {f : Nat} {fn : Fn} {ds : List D} {S X : Sto} {d : D} (h : T[f]? = some fn) (hl : ds.length = fn.ar) (hc : clo S) (hp : D.pure d = true) (e : exs (run T w n) w fn.body (ds.map some ++ List.replicate (fn.sl - fn.ar) none) S = some (.rt d, S ++ X)) : run T w (n + 1) f ds S = some (d, S) := by
  rw [run_rt h hl e, leave_clo hc hp]
theorem run_rts {f : Nat} {fn : Fn} {ds : List D} {S S1 : Sto} {d : D} (h : T[f]? = some fn) (hl : ds.length = fn.ar) (hs : S1.length = S.length) (e : exs (run T w n) w fn.body (ds.map some ++ List.replicate (fn.sl - fn.ar) none) S = some (.rt d, S1)) : run T w (n + 1) f ds S = some (d, S1) := by
  rw [run_rt h hl e, leave_same hs]
theorem run_nxs {f : Nat} {fn : Fn} {ds : List D} {S S1 : Sto} {ρ : Env} (h : T[f]? = some fn) (hl : ds.length = fn.ar) (hs : S1.length = S.length) (e : exs (run T w n) w fn.body (ds.map some ++ List.replicate (fn.sl - fn.ar) none) S = some (.nx ρ, S1)) : run T w (n + 1) f ds S = some (.non, S1) := by
  rw [run_nx h hl e, leave_same hs]

inductive Wr where
  | nm (x : Str) | of (x : Str) (b : Wr) | to (a b : Wr)
def Wr.size : Wr → Nat
  | .nm _ => 1
  | .of _ b => b.size + 1
  | .to a b => a.size + b.size + 1
def Wr.dp : Wr → Nat
  | .nm _ => 0
  | .of _ b => b.dp + 1
  | .to a b => max a.dp b.dp + 1
def Wr.names : Wr → List Str
  | .nm x => [x]
  | .of x b => x :: b.names
  | .to a b => a.names ++ b.names
def Wr.enc : Wr → D
  | .nm x => .str x
  | .of x b => .tup [.str "of", .str x, b.enc]
  | .to a b => .tup [.str "to", a.enc, b.enc]
def Wr.encL : Wr → D
  | .nm x => .str x
  | .of x b => .lst [.str "of", .str x, b.encL]
  | .to a b => .lst [.str "to", a.encL, b.encL]
theorem Wr.pure_enc : ∀ w : Wr, w.enc.pure = true
  | .nm _ => rfl
  | .of _ b => by simp [Wr.enc, D.pure, D.pures, b.pure_enc]
  | .to a b => by simp [Wr.enc, D.pure, D.pures, a.pure_enc, b.pure_enc]
theorem Wr.size_pos : ∀ w : Wr, 0 < w.size
  | .nm _ => Nat.zero_lt_one
  | .of _ b => Nat.succ_pos _
  | .to _ _ => Nat.succ_pos _

/-- the first of the drawing's numbers -/
theorem closed_app {k : Nat} {A B : Sto} (h1 : closedS k A = true) (h2 : closedS k B = true) : closedS k (A ++ B) = true := by
  unfold closedS at *
  rw [List.all_append, h1, h2]; rfl
theorem clo_app {S X : Sto} (h : clo S) (h2 : closedS (S.length + X.length) X = true) : clo (S ++ X) := by
  unfold clo
  rw [List.length_append]
  exact closed_app (closed_mono (Nat.le_add_right _ _) h) h2
theorem clo_one {S : Sto} {xs : List D} (h : clo S) (h2 : D.pures xs = true) : clo (S ++ [some xs]) := clo_app h (by
  show (D.unders _ xs && true) = true
  rw [pures_unders xs h2]; rfl)
structure Dr (T : List Fn) (w f : Nat) (c : List Int) : Prop where
  ok : ∀ (n : Nat) (R : Sto) (many t h : Int), 0 < many → many < 2 ^ 63 → 0 ≤ t → t ≤ 1000000 → 0 ≤ h →
    ∃ r t' h' : Int, 0 ≤ r ∧ r < many ∧ t ≤ t' ∧ t' ≤ t + 1 ∧ 0 ≤ h' ∧ run T w (n + 1) f [.ref 0, .int many] (some (shelf c t h) :: R) = some (.int r, some (shelf c t' h') :: R)
theorem dr_of {m1 c1 p1 m2 p2 k p3 : Int} {f : Nat} {c : List Int} (hT : T[f]? = some ⟨2, 6, reachB m1 c1 p1 m2 p2 k p3⟩) (K : NumsOk m1 c1 p1 m2 p2 k p3) : Dr T w f c :=
  ⟨fun n R many t h h1 h2 h3 h4 h5 => reach_ok hT K h1 h2 h3 h4 h5⟩
def oneB (rc : Nat) : Ss := (.cons (.ret (.ix (.v 1) (.call rc (.cons (.v 0) (.cons (.bi .len (.cons (.v 1) .nil)) .nil))))) .nil)
theorem len_lst (xs : List D) : biD .len [.lst xs] = some (.int xs.length) := rfl
theorem len_tup (xs : List D) : biD .len [.tup xs] = some (.int xs.length) := rfl
theorem ix_lst (xs : List D) (i : Int) : ixD (.lst xs) (.int i) = L2.atI xs i := rfl
theorem ix_tup (xs : List D) (i : Int) : ixD (.tup xs) (.int i) = L2.atI xs i := rfl
/-- one of some -/
theorem one_ok {rc f : Nat} {c : List Int} (D0 : Dr T w rc c) (hT : T[f]? = some ⟨2, 2, oneB rc⟩) {xs : List D} (hx : xs ≠ []) (hl : xs.length < 2 ^ 60) {R : Sto} {t h : Int} (t0 : 0 ≤ t) (t1 : t ≤ 1000000) (h0 : 0 ≤ h) :
    ∃ (j : Nat) (x : D) (t' h' : Int), xs[j]? = some x ∧ t ≤ t' ∧ t' ≤ t + 1 ∧ 0 ≤ h' ∧ run T w (n + 2) f [.ref 0, .lst xs] (some (shelf c t h) :: R) = some (x, some (shelf c t' h') :: R) := by
  have hp : 0 < xs.length := List.length_pos_iff.mpr hx
  obtain ⟨r, t', h', r0, r1, q1, q2, q3, e⟩ := D0.ok n R xs.length t h (by omega) (by omega) t0 t1 h0
  obtain ⟨j, rfl⟩ := Int.eq_ofNat_of_zero_le r0
  have hj : j < xs.length := by omega
  refine ⟨j, xs[j], t', h', List.getElem?_eq_getElem hj, q1, q2, q3, run_rts hT rfl rfl ?_⟩
  have z : ixD (.lst xs) (.int (j : Int)) = some xs[j] := by rw [ix_lst, atI_nat hj, List.getElem?_eq_getElem hj]
  simp [oneB, exs, ex, ev, evs, see, seeAll, len_lst, e, z]
theorem one_str {rc f : Nat} {c : List Int} (D0 : Dr T w rc c) (hT : T[f]? = some ⟨2, 2, oneB rc⟩) {xs : List Str} (hx : xs ≠ []) (hl : xs.length < 2 ^ 60) {R : Sto} {t h : Int} (t0 : 0 ≤ t) (t1 : t ≤ 1000000) (h0 : 0 ≤ h) :
    ∃ (x : Str) (t' h' : Int), x ∈ xs ∧ t ≤ t' ∧ t' ≤ t + 1 ∧ 0 ≤ h' ∧ run T w (n + 2) f [.ref 0, .lst (xs.map D.str)] (some (shelf c t h) :: R) = some (.str x, some (shelf c t' h') :: R) := by
  obtain ⟨j, d, t', h', hj, q⟩ := one_ok (n := n) D0 hT (xs := xs.map D.str) (by simpa using hx) (by simpa using hl) (R := R) t0 t1 h0
  rw [List.getElem?_map] at hj
  cases hx2 : xs[j]? with
  | none => rw [hx2] at hj; cases hj
  | some x =>
    rw [hx2] at hj
    cases hj
    exact ⟨x, t', h', List.mem_of_getElem? hx2, q⟩

def ofS (one f : Nat) : Ss := (.cons (.ret (.tup (.cons (.c (.str "of")) (.cons (.call one (.cons (.v 0) (.cons (.v 2) .nil))) (.cons (.call f (.cons (.v 0) (.cons (.op .Sub (.v 1) (.c (.int 1))) (.cons (.v 2) .nil)))) .nil))))) .nil)
def toS (f : Nat) : Ss := (.cons (.ret (.tup (.cons (.c (.str "to")) (.cons (.call f (.cons (.v 0) (.cons (.v 3) (.cons (.v 2) .nil)))) (.cons (.call f (.cons (.v 0) (.cons (.op .Sub (.op .Sub (.v 1) (.c (.int 1))) (.v 3)) (.cons (.v 2) .nil)))) .nil))))) .nil)
def drawnB (rc one self : Nat) : Ss := (.cons (.ifs (.cmp .Eq (.v 1) (.c (.int 1))) (.cons (.ret (.call one (.cons (.v 0) (.cons (.v 2) .nil)))) .nil) .nil) (.cons (.ifs (.or (.cmp .Eq (.v 1) (.c (.int 2))) (.and (.cmp .Lt (.v 1) (.c (.int 21))) (.cmp .Gt (.call rc (.cons (.v 0) (.cons (.c (.int 3)) .nil))) (.c (.int 0))))) (ofS one self) .nil) (.cons (.asg (.n 3) (.ite (.cmp .Lt (.v 1) (.c (.int 21))) (.op .Add (.c (.int 1)) (.call rc (.cons (.v 0) (.cons (.op .Sub (.v 1) (.c (.int 2))) .nil)))) (.op .Add (.bi .int (.cons (.op .FloorDiv (.v 1) (.c (.int 3))) .nil)) (.call rc (.cons (.v 0) (.cons (.bi .int (.cons (.op .FloorDiv (.v 1) (.c (.int 3))) .nil)) .nil)))))) (toS self))))
def dpb (s : Nat) : Nat := if s < 21 then s else 20 + s / 5
theorem drawn_ok {rc one f : Nat} {c : List Int} (D0 : Dr T w rc c) (h1 : T[one]? = some ⟨2, 2, oneB rc⟩) (hT : T[f]? = some ⟨3, 4, drawnB rc one f⟩) {ns : List Str} (hx : ns ≠ []) (hl : ns.length < 2 ^ 60) {R : Sto} :
    ∀ (s : Nat), 1 ≤ s → ∀ (n : Nat) (t h : Int), dpb s + 2 ≤ n → 0 ≤ t → t + 3 * s ≤ 1000000 → 0 ≤ h →
      ∃ (W : Wr) (t' h' : Int), (∀ x ∈ W.names, x ∈ ns) ∧ W.size ≤ s ∧ W.dp ≤ dpb s ∧ t ≤ t' ∧ t' ≤ t + 3 * s ∧ 0 ≤ h' ∧ run T w n f [.ref 0, .int s, .lst (ns.map D.str)] (some (shelf c t h) :: R) = some (W.enc, some (shelf c t' h') :: R) := by
  intro s
  induction s using Nat.strongRecOn with
  | ind s ih =>
    intro hs n t h hn t0 t1 h0
    obtain ⟨n, rfl⟩ : ∃ m, n = m + 3 := ⟨n - 3, by unfold dpb at hn; split at hn <;> omega⟩
    have sm3 : ∀ a b d : D, small [a, b, d].length = true := fun _ _ _ => rfl
    have d2 : 2 ≤ s → dpb (s - 1) + 1 ≤ dpb s ∨ 21 ≤ s := fun h2 => by
      unfold dpb
      by_cases h : s < 21
      · rw [if_pos h, if_pos (by omega)]; omega
      · exact .inr (by omega)
    have dto : ∀ p, (s < 21 → p + 1 ≤ s) → (21 ≤ s → p + s / 3 ≤ s) → dpb p + 1 ≤ dpb s := fun p a1 a2 => by
      unfold dpb
      split <;> split <;> omega
    -- of
    have hof : ∀ (t h : Int), 2 ≤ s → s < 21 → 0 ≤ t → t + (3 * s - 1) ≤ 1000000 → 0 ≤ h → ∃ (W : Wr) (t' h' : Int), (∀ x ∈ W.names, x ∈ ns) ∧ W.size ≤ s ∧ W.dp ≤ dpb s ∧ t ≤ t' ∧ t' ≤ t + (3 * s - 1) ∧ 0 ≤ h' ∧
        exs (run T w (n + 2)) w (ofS one f) [some (.ref 0), some (.int s), some (.lst (ns.map D.str)), none] (some (shelf c t h) :: R) = some (.rt W.enc, some (shelf c t' h') :: R) := by
      intro t h h2 h21 t0 t1 h0
      obtain ⟨x, t2, h2', q1, q2, q3, q4, q5⟩ := one_str (n := n) D0 h1 hx hl (R := R) t0 (by omega) h0
      obtain ⟨W, t3, h3', p1, p2, p3, p4, p5, p6, p7⟩ := ih (s - 1) (by omega) (by omega) (n + 2) t2 h2' (by have := dto (s - 1) (by omega) (by omega); omega) (by omega) (by omega) q4
      have es : (s : Int) - 1 = ((s - 1 : Nat) : Int) := by omega
      refine ⟨.of x W, t3, h3', fun y hy => ?_, by simp only [Wr.size]; omega, by have := dto (s - 1) (by omega) (by omega); simp only [Wr.dp]; omega, by omega, by omega, p6, ?_⟩
      · rcases List.mem_cons.mp hy with rfl | hy
        · exact q1
        · exact p1 y hy
      · simp [ofS, exs, ex, ev, evs, see, q5, op_sub, es, p7, Wr.enc, small]
    have hto : ∀ (t h : Int) (p : Nat), 1 ≤ p → p + 2 ≤ s → (21 ≤ s → s / 3 ≤ p ∧ p ≤ s - s / 3) → 0 ≤ t → t + 3 * (s - 1) ≤ 1000000 → 0 ≤ h → ∃ (W : Wr) (t' h' : Int), (∀ x ∈ W.names, x ∈ ns) ∧ W.size ≤ s ∧ W.dp ≤ dpb s ∧ t ≤ t' ∧ t' ≤ t + 3 * (s - 1) ∧ 0 ≤ h' ∧
        exs (run T w (n + 2)) w (toS f) [some (.ref 0), some (.int s), some (.lst (ns.map D.str)), some (.int p)] (some (shelf c t h) :: R) = some (.rt W.enc, some (shelf c t' h') :: R) := by
      intro t h p h1 h2 h3 t0 t1 h0
      have e1 := dto p (by omega) (by omega)
      have e2 := dto (s - 1 - p) (by omega) (by omega)
      obtain ⟨W1, t2, h2', q1, q2, q3, q4, q5, q6, q7⟩ := ih p (by omega) h1 (n + 2) t h (by omega) t0 (by omega) h0
      obtain ⟨W2, t3, h3', p1, p2, p3, p4, p5, p6, p7⟩ := ih (s - 1 - p) (by omega) (by omega) (n + 2) t2 h2' (by omega) (by omega) (by omega) q6
      have es : (s : Int) - 1 - (p : Int) = ((s - 1 - p : Nat) : Int) := by omega
      refine ⟨.to W1 W2, t3, h3', fun y hy => ?_, by simp only [Wr.size]; omega, by simp only [Wr.dp]; omega, by omega, by omega, p6, ?_⟩
      · rcases List.mem_append.mp hy with hy | hy
        · exact q1 y hy
        · exact p1 y hy
      · simp [toS, exs, ex, ev, evs, see, q7, op_sub, es, p7, Wr.enc, small]
    have fin : ∀ {W : Wr} {t' h' : Int}, exs (run T w (n + 2)) w (drawnB rc one f) [some (.ref 0), some (.int s), some (.lst (ns.map D.str)), none] (some (shelf c t h) :: R) = some (.rt W.enc, some (shelf c t' h') :: R) →
        run T w (n + 3) f [.ref 0, .int s, .lst (ns.map D.str)] (some (shelf c t h) :: R) = some (W.enc, some (shelf c t' h') :: R) := fun e => run_rts hT rfl rfl e
    by_cases c1 : s = 1
    · subst c1
      obtain ⟨x, t2, h2', q1, q2, q3, q4, q5⟩ := one_str (n := n) D0 h1 hx hl (R := R) t0 (by omega) h0
      refine ⟨.nm x, t2, h2', fun y hy => by rw [List.mem_singleton.mp hy]; exact q1, Nat.le_refl _, Nat.zero_le _, q2, by omega, q4, fin ?_⟩
      simp [drawnB, exs, ex, ev, evs, see, cmpD, q5, Wr.enc]
    have z1 : cmpD .Eq (.int s) (.int 1) = some false := congrArg some (decide_eq_false (by omega))
    by_cases c2 : s = 2
    · have z2 : cmpD .Eq (.int s) (.int 2) = some true := congrArg some (decide_eq_true (by omega))
      obtain ⟨W, t', h', q1, q2, q3, q4, q5, q6, q7⟩ := hof t h (by omega) (by omega) t0 (by omega) h0
      refine ⟨W, t', h', q1, q2, q3, q4, by omega, q6, fin ?_⟩
      simp only [drawnB, exs, ex, ev, see, List.getElem?_cons_zero, List.getElem?_cons_succ, z1, z2, q7]
    have z2 : cmpD .Eq (.int s) (.int 2) = some false := congrArg some (decide_eq_false (by omega))
    by_cases c3 : s < 21
    · have z3 : cmpD .Lt (.int s) (.int 21) = some true := congrArg some (decide_eq_true (by omega))
      obtain ⟨r, t1', h1', r0, r1, q1, q2, q3, q4⟩ := D0.ok (n + 1) R 3 t h (by decide) (by decide) t0 (by omega) h0
      by_cases cr : 0 < r
      · have z4 : cmpD .Gt (.int r) (.int 0) = some true := congrArg some (decide_eq_true cr)
        obtain ⟨W, t', h', p1, p2, p3, p4, p5, p6, p7⟩ := hof t1' h1' (by omega) c3 (by omega) (by omega) q3
        refine ⟨W, t', h', p1, p2, p3, by omega, by omega, p6, fin ?_⟩
        simp only [drawnB, exs, ex, ev, evs, see, List.getElem?_cons_zero, List.getElem?_cons_succ, z1, z2, z3, q4, z4, p7]
      · have z4 : cmpD .Gt (.int r) (.int 0) = some false := congrArg some (decide_eq_false cr)
        obtain ⟨r2, t2', h2', y0, y1, y2, y3, y4, y5⟩ := D0.ok (n + 1) R ((s : Int) - 2) t1' h1' (by omega) (by omega) (by omega) (by omega) q3
        obtain ⟨W, t', h', p1, p2, p3, p4, p5, p6, p7⟩ := hto t2' h2' (1 + r2).toNat (by omega) (by omega) (by omega) (by omega) (by omega) y4
        rw [show (((1 + r2).toNat : Nat) : Int) = 1 + r2 by omega] at p7
        refine ⟨W, t', h', p1, p2, p3, by omega, by omega, p6, fin ?_⟩
        simp only [drawnB, exs, ex, ev, evs, see, List.getElem?_cons_zero, List.getElem?_cons_succ, z1, z2, z3, q4, z4, op_sub, y5, op_add, setT, List.set_cons_succ, List.set_cons_zero, p7]
    · have z3 : cmpD .Lt (.int s) (.int 21) = some false := congrArg some (decide_eq_false (by omega))
      have z5 : opD .FloorDiv (.int s) (.int 3) = some (.int ((s : Int) / 3)) := op_div (by decide) (by decide)
      have z6 : biD .int [.int ((s : Int) / 3)] = some (.int ((s : Int) / 3)) := rfl
      obtain ⟨r2, t2', h2', y0, y1, y2, y3, y4, y5⟩ := D0.ok (n + 1) R ((s : Int) / 3) t h (by omega) (by omega) (by omega) (by omega) h0
      obtain ⟨W, t', h', p1, p2, p3, p4, p5, p6, p7⟩ := hto t2' h2' ((s : Int) / 3 + r2).toNat (by omega) (by omega) (by omega) (by omega) (by omega) y4
      rw [show ((((s : Int) / 3 + r2).toNat : Nat) : Int) = (s : Int) / 3 + r2 by omega] at p7
      refine ⟨W, t', h', p1, p2, p3, by omega, by omega, p6, fin ?_⟩
      simp only [drawnB, exs, ex, ev, evs, see, seeAll, List.getElem?_cons_zero, List.getElem?_cons_succ, z1, z2, z3, z5, z6, y5, op_add, setT, List.set_cons_succ, List.set_cons_zero, p7]
end Iv

set_option Elab.async false
set_option linter.all false
set_option maxRecDepth 100000
set_option maxHeartbeats 4000000
namespace Iv
open PySem
variable {T : List Fn} {w n : Nat}
theorem compRun_map {f : D → Sto → Option (Option D × Sto)} {g : D → D} {S : Sto} : ∀ (xs acc : List D), (∀ d ∈ xs, f d S = some (some (g d), S)) → acc.length + xs.length ≤ 100000 → compRun f xs acc S = some (acc ++ xs.map g, S)
  | [], acc, _, _ => by simp [compRun]
  | d :: ds, acc, h, hl => by
    simp only [List.length_cons] at hl
    have ih := compRun_map (f := f) (g := g) (S := S) ds (acc ++ [g d]) (fun e he => h e (List.mem_cons_of_mem _ he)) (by simp; omega)
    simp [compRun, h d List.mem_cons_self, small, show acc.length + 1 ≤ 100000 by omega, ih]
theorem ev_comp {F : CF} {t : Tg} {it elt : E} {ρ : Env} {S S1 : Sto} {x : D} {xs : List D} {g : D → D} (h1 : ev F it ρ S = some (x, S1)) (h2 : items x = some xs) (h3 : ∀ d ∈ xs, ∃ ρ', setT t d (wipeT t ρ) = some ρ' ∧ ev F elt ρ' S1 = some (g d, S1)) (hl : xs.length ≤ 100000) :
    ev F (.comp false t it elt) ρ S = some (.lst (xs.map g), S1) := by
  simp only [ev, h1, h2]
  rw [compRun_map (g := g) xs [] (fun d hd => by
        obtain ⟨ρ', e1, e2⟩ := h3 d hd
        simp only [e1, e2]) (by simpa using hl)]
  rfl
theorem compRun_filter {f : D → Sto → Option (Option D × Sto)} {p : D → Bool} {S : Sto} : ∀ (xs acc : List D), (∀ d ∈ xs, f d S = some (if p d then some d else none, S)) → acc.length + xs.length ≤ 100000 → compRun f xs acc S = some (acc ++ xs.filter p, S)
  | [], acc, _, _ => by simp [compRun]
  | d :: ds, acc, h, hl => by
    simp only [List.length_cons] at hl
    have hd := h d List.mem_cons_self
    have hr : ∀ e ∈ ds, f e S = some (if p e then some e else none, S) := fun e he => h e (List.mem_cons_of_mem _ he)
    cases q : p d with
    | true =>
      have ih := compRun_filter (f := f) (p := p) (S := S) ds (acc ++ [d]) hr (by simp; omega)
      rw [q] at hd
      simp [compRun, hd, small, show acc.length + 1 ≤ 100000 by omega, ih, q]
    | false =>
      have ih := compRun_filter (f := f) (p := p) (S := S) ds acc hr (by omega)
      rw [q] at hd
      simp [compRun, hd, ih, q]
theorem ev_filter {F : CF} {i : Nat} {it cond : E} {ρ : Env} {S S1 : Sto} {x : D} {xs : List D} {p : D → Bool} (h1 : ev F it ρ S = some (x, S1)) (h2 : items x = some xs) (hi : i < ρ.length) (h3 : ∀ d ∈ xs, ev F cond ((ρ.set i none).set i (some d)) S1 = some (.bl (p d), S1)) (hl : xs.length ≤ 100000) :
    ev F (.compI false (.n i) it cond (.v i)) ρ S = some (.lst (xs.filter p), S1) := by
  have e1 : ∀ d, ((ρ.set i none).set i (some d))[i]? = some (some d) := fun d => by
    simp [List.getElem?_set, hi]
  simp only [ev, h1, h2]
  rw [compRun_filter (p := p) xs [] (fun d hd => by
        have e2 := h3 d hd
        simp only [setT, wipeT, e2, e1]
        cases q : p d <;> rfl) (by simpa using hl)]
  rfl
theorem eqv_str (a b : Str) : D.eqv (.str a) (.str b) = decide (a = b) := by
  simp [D.eqv, D.py, PyData.eqv]
  rw [Bool.eq_iff_iff]
  simp
theorem bls_map (f : D → Bool) : ∀ xs : List D, bls? (xs.map fun d => .bl (f d)) = some (xs.map f)
  | [] => rfl
  | x :: xs => by simp [bls?, bls_map f xs]
theorem in_sign (c : Nat) (z : Str) : cmpD .In (.str ⟨#[c]⟩) (.str z) = some (decide (c ∈ z.cps.toList)) := by
  simp [cmpD, Str.length]
theorem notin_sign (c : Nat) (z : Str) : cmpD .NotIn (.str ⟨#[c]⟩) (.str z) = some (!decide (c ∈ z.cps.toList)) := by
  simp [cmpD, Str.length]
theorem in_tup {x : D} {ys : List D} (h : x.flat = true) (h2 : ys.all D.flat = true) : cmpD .In x (.tup ys) = some (inFlat x ys) := by
  simp only [cmpD, h, h2, Bool.and_self, if_true]
theorem in_lst {x : D} {ys : List D} (h : x.flat = true) (h2 : ys.all D.flat = true) : cmpD .In x (.lst ys) = some (inFlat x ys) := by
  simp only [cmpD, h, h2, Bool.and_self, if_true]
theorem notin_tup {x : D} {ys : List D} (h : x.flat = true) (h2 : ys.all D.flat = true) : cmpD .NotIn x (.tup ys) = some (!inFlat x ys) := by
  simp only [cmpD, h, h2, Bool.and_self, if_true]
theorem notin_lst {x : D} {ys : List D} (h : x.flat = true) (h2 : ys.all D.flat = true) : cmpD .NotIn x (.lst ys) = some (!inFlat x ys) := by
  simp only [cmpD, h, h2, Bool.and_self, if_true]
def letters : Str := "abcdefghijklmnopqrstuvwxyz"
def digits : Str := "0123456789"
/-- a name, as the text has it -/
def nmOk (x : Str) : Bool := decide (1 ≤ x.length) && decide (x.length ≤ 12) && !decide (x = "of") && !decide (x = "to") && decide (x.cps.toList.headD 0 ∈ letters.cps.toList) && x.cps.toList.all fun c => decide (c ∈ (letters ++ digits).cps.toList)
def nmComp : E := (.comp false (.n 1) (.v 0) (.cmp .In (.v 1) (.op .Add (.g "LETTERS" (.str "abcdefghijklmnopqrstuvwxyz")) (.g "DIGITS" (.str "0123456789")))))
def isNameB : Ss := (.cons (.ifs (.or (.not (.isi (.v 0) [.str])) (.or (.not (.chain .LtE .LtE (.c (.int 1)) (.bi .len (.cons (.v 0) .nil)) (.g "MOST_NAME" (.int 12)))) (.or (.cmp .In (.v 0) (.g "WORDS" (.tup [(.str "of"), (.str "to")]))) (.cmp .NotIn (.ix (.v 0) (.c (.int 0))) (.g "LETTERS" (.str "abcdefghijklmnopqrstuvwxyz")))))) (.cons (.ret (.c (.bl false))) .nil) .nil) (.cons (.ret (.bi .all (.cons nmComp .nil))) .nil))
theorem isName_ok {f : Nat} (hT : T[f]? = some ⟨1, 2, isNameB⟩) {x : Str} (h : nmOk x = true) (S : Sto) : run T w (n + 1) f [.str x] S = some (.bl true, S) := by
  simp only [nmOk, Bool.and_eq_true, decide_eq_true_eq, Bool.not_eq_true', decide_eq_false_iff_not] at h
  obtain ⟨⟨⟨⟨⟨h1, h2⟩, h3⟩, h4⟩, h5⟩, h6⟩ := h
  refine run_rts hT rfl rfl ?_
  have z0 : small x.length = true := decide_eq_true (by omega)
  have z1 : biD .len [.str x] = some (.int x.length) := by show (if _ then _ else _) = _; rw [if_pos z0]
  have z2 : cmpD .LtE (.int 1) (.int x.length) = some true := congrArg some (decide_eq_true (by omega))
  have z3 : cmpD .LtE (.int x.length) (.int 12) = some true := congrArg some (decide_eq_true (by omega))
  have z4 : cmpD .In (.str x) (.tup [.str "of", .str "to"]) = some false := by
    have e : inFlat (.str x) [.str "of", .str "to"] = false := by
      simp only [inFlat, List.any_cons, List.any_nil, eqv_str, Bool.or_false]
      rw [decide_eq_false (fun z => h3 z.symm), decide_eq_false (fun z => h4 z.symm)]
      rfl
    rw [in_tup rfl rfl, e]
  obtain ⟨c0, r, hc⟩ : ∃ c0 r, x.cps.toList = c0 :: r := by
    cases q : x.cps.toList with
    | nil =>
      have : x.length = 0 := by show x.cps.size = 0; rw [← Array.length_toList, q]; rfl
      omega
    | cons a b => exact ⟨a, b, rfl⟩
  have z5 : ixD (.str x) (.int 0) = some (.str ⟨#[c0]⟩) := by
    show (if _ then _ else _) = _
    rw [if_pos z0, hc, show (0 : Int) = ((0 : Nat) : Int) from rfl, atI_nat (by simp)]
    rfl
  rw [hc] at h5
  have z6 : cmpD .NotIn (.str ⟨#[c0]⟩) (.str "abcdefghijklmnopqrstuvwxyz") = some false := by
    rw [notin_sign]
    have e : decide (c0 ∈ letters.cps.toList) = true := decide_eq_true h5
    exact congrArg some (congrArg not e)
  have z7 : opD .Add (.str "abcdefghijklmnopqrstuvwxyz") (.str "0123456789") = some (.str (letters ++ digits)) := rfl
  have z8 : items (.str x) = some (x.cps.toList.map fun c => .str ⟨#[c]⟩) := rfl
  have z9 : ∀ c ∈ x.cps.toList, cmpD .In (.str ⟨#[c]⟩) (.str (letters ++ digits)) = some true := fun c hc => by
    rw [in_sign]
    exact congrArg some (List.all_eq_true.mp h6 c hc)
  have zl : x.cps.toList.length ≤ 12 := by rw [Array.length_toList]; exact h2
  have z10 : ev (run T w n) nmComp [some (.str x), none] S = some (.lst ((x.cps.toList.map fun c => D.str ⟨#[c]⟩).map fun _ => .bl true), S) :=
    ev_comp rfl z8 (fun d hd => by
      obtain ⟨c, hc, rfl⟩ := List.mem_map.mp hd
      refine ⟨_, rfl, ?_⟩
      simp only [wipeT, ev, see, List.set_cons_succ, List.set_cons_zero, List.getElem?_cons_zero, List.getElem?_cons_succ, z7, z9 c hc]) (by simp only [List.length_map]; omega)
  have z11 : biD .all [.lst ((x.cps.toList.map fun c => D.str ⟨#[c]⟩).map fun _ => .bl true)] = some (.bl true) := by
    show (bls? _).map _ = _
    rw [bls_map (fun _ => true)]
    simp
  simp only [isNameB, List.map_cons, List.map_nil, Nat.reduceSub, List.replicate_succ, List.replicate_zero, List.cons_append, List.nil_append, exs, ex, ev, evs, see, seeAll, List.getElem?_cons_zero, List.getElem?_cons_succ, isTy, tyOf, List.any_cons, List.any_nil, z1, z2, z3, z4, z5, z6, z8, z10, mkList, z11, beq_self_eq_true, Bool.true_or, Bool.not_true, Bool.false_eq_true, if_false]
end Iv

set_option Elab.async false
set_option linter.all false
set_option maxRecDepth 100000
set_option maxHeartbeats 4000000
namespace Iv
open PySem
variable {T : List Fn} {w n : Nat}
inductive Enc : D → Wr → Prop where
  | nm (x : Str) : Enc (.str x) (.nm x)
  | ofT {x : Str} {d : D} {b : Wr} : Enc d b → Enc (.tup [.str "of", .str x, d]) (.of x b)
  | ofL {x : Str} {d : D} {b : Wr} : Enc d b → Enc (.lst [.str "of", .str x, d]) (.of x b)
  | toT {d e : D} {a b : Wr} : Enc d a → Enc e b → Enc (.tup [.str "to", d, e]) (.to a b)
  | toL {d e : D} {a b : Wr} : Enc d a → Enc e b → Enc (.lst [.str "to", d, e]) (.to a b)
theorem enc_T : ∀ W : Wr, Enc W.enc W
  | .nm x => .nm x
  | .of _ b => .ofT (enc_T b)
  | .to a b => .toT (enc_T a) (enc_T b)
theorem enc_L : ∀ W : Wr, Enc W.encL W
  | .nm x => .nm x
  | .of _ b => .ofL (enc_L b)
  | .to a b => .toL (enc_L a) (enc_L b)
theorem ev_comp3 {F : CF} {i : Nat} {it elt : E} {ρ : Env} {S S1 : Sto} {x a b c a' b' c' : D} (h1 : ev F it ρ S = some (x, S1)) (h2 : items x = some [a, b, c])
    (ha : ev F elt ((ρ.set i none).set i (some a)) S1 = some (a', S1)) (hb : ev F elt ((ρ.set i none).set i (some b)) S1 = some (b', S1)) (hc : ev F elt ((ρ.set i none).set i (some c)) S1 = some (c', S1)) :
    ev F (.comp false (.n i) it elt) ρ S = some (.lst [a', b', c'], S1) := by
  simp only [ev, h1, h2, compRun, setT, wipeT, ha, hb, hc, List.length_nil, List.length_cons, List.length_append, small, mkList, List.nil_append, List.cons_append, Bool.false_eq_true, if_false]
  rfl

theorem see_str (S : Sto) (x : Str) : see S (.str x) = some (.str x) := rfl
theorem see_int (S : Sto) (x : Int) : see S (.int x) = some (.int x) := rfl
theorem see_bl (S : Sto) (x : Bool) : see S (.bl x) = some (.bl x) := rfl
theorem see_tup (S : Sto) (x : List D) : see S (.tup x) = some (.tup x) := rfl
theorem see_lst (S : Sto) (x : List D) : see S (.lst x) = some (.lst x) := rfl
def asTupC (self : Nat) : E := (.comp false (.n 1) (.v 0) (.call self (.cons (.v 1) .nil)))
def asTupB (self : Nat) : Ss := (.cons (.ret (.ite (.isi (.v 0) [.list, .tuple]) (.bi .tuple (.cons (asTupC self) .nil)) (.v 0))) .nil)
theorem asTup_nm {f : Nat} (hT : T[f]? = some ⟨1, 2, asTupB f⟩) (x : Str) (S : Sto) (n : Nat) (hn : 1 ≤ n) : run T w n f [.str x] S = some (.str x, S) := by
  obtain ⟨n, rfl⟩ : ∃ m, n = m + 1 := ⟨n - 1, by omega⟩
  exact run_rts hT rfl rfl rfl
theorem asTup_sq {f : Nat} (hT : T[f]? = some ⟨1, 2, asTupB f⟩) {d a b c a' b' c' : D} (hd : d = .tup [a, b, c] ∨ d = .lst [a, b, c]) {S : Sto} (ha : run T w n f [a] S = some (a', S)) (hb : run T w n f [b] S = some (b', S)) (hc : run T w n f [c] S = some (c', S)) :
    run T w (n + 1) f [d] S = some (.tup [a', b', c'], S) := by
  refine run_rts hT rfl rfl ?_
  have z : ev (run T w n) (asTupC f) [some d, none] S = some (.lst [a', b', c'], S) := by
    refine ev_comp3 (a := a) (b := b) (c := c) (x := d) rfl (by rcases hd with rfl | rfl <;> rfl) ?_ ?_ ?_
    · simp only [ev, evs, List.set_cons_succ, List.set_cons_zero, List.getElem?_cons_zero, List.getElem?_cons_succ, ha]
    · simp only [ev, evs, List.set_cons_succ, List.set_cons_zero, List.getElem?_cons_zero, List.getElem?_cons_succ, hb]
    · simp only [ev, evs, List.set_cons_succ, List.set_cons_zero, List.getElem?_cons_zero, List.getElem?_cons_succ, hc]
  have z2 : biD .tuple [.lst [a', b', c']] = some (.tup [a', b', c']) := rfl
  have z3 : [Ty.list, .tuple].any (isTy d) = true := by rcases hd with rfl | rfl <;> rfl
  have z4 : see S d = some d := by rcases hd with rfl | rfl <;> rfl
  simp only [asTupB, List.map_cons, List.map_nil, Nat.reduceSub, List.replicate_succ, List.replicate_zero, List.cons_append, List.nil_append, exs, ex, ev, evs, see_lst, seeAll, List.getElem?_cons_zero, List.getElem?_cons_succ, z, z2, z3, z4]
theorem asTup_ok {f : Nat} (hT : T[f]? = some ⟨1, 2, asTupB f⟩) {S : Sto} {d : D} {W : Wr} (h : Enc d W) : ∀ n, W.dp + 1 ≤ n → run T w n f [d] S = some (W.enc, S) := by
  induction h with
  | nm x => exact fun n hn => asTup_nm hT x S n (by omega)
  | ofT _ ih | ofL _ ih =>
    intro n hn
    simp only [Wr.dp] at hn
    obtain ⟨n, rfl⟩ : ∃ m, n = m + 1 := ⟨n - 1, by omega⟩
    exact asTup_sq hT (by first | exact .inl rfl | exact .inr rfl) (asTup_nm hT _ S n (by omega)) (asTup_nm hT _ S n (by omega)) (ih n (by omega))
  | toT _ _ ih1 ih2 | toL _ _ ih1 ih2 =>
    intro n hn
    simp only [Wr.dp] at hn
    obtain ⟨n, rfl⟩ : ∃ m, n = m + 1 := ⟨n - 1, by omega⟩
    exact asTup_sq hT (by first | exact .inl rfl | exact .inr rfl) (asTup_nm hT _ S n (by omega)) (ih1 n (by omega)) (ih2 n (by omega))

def isWrB (nm self : Nat) : Ss := (.cons (.ifs (.isi (.v 0) [.str]) (.cons (.ret (.call nm (.cons (.v 0) .nil))) .nil) .nil) (.cons (.ifs (.or (.not (.isi (.v 0) [.list, .tuple])) (.or (.cmp .NotEq (.bi .len (.cons (.v 0) .nil)) (.c (.int 3))) (.cmp .NotIn (.ix (.v 0) (.c (.int 0))) (.tup (.cons (.g "OF" (.str "of")) (.cons (.g "TO" (.str "to")) .nil)))))) (.cons (.ret (.c (.bl false))) .nil) .nil) (.cons (.ifs (.cmp .Eq (.ix (.v 0) (.c (.int 0))) (.g "OF" (.str "of"))) (.cons (.ret (.and (.call nm (.cons (.ix (.v 0) (.c (.int 1))) .nil)) (.call self (.cons (.ix (.v 0) (.c (.int 2))) .nil)))) .nil) .nil) (.cons (.ret (.and (.call self (.cons (.ix (.v 0) (.c (.int 1))) .nil)) (.call self (.cons (.ix (.v 0) (.c (.int 2))) .nil)))) .nil))))
/-- three parts, seen -/
structure Sq3 (d a b c : D) : Prop where
  s : ∀ S, see S d = some d
  str : [Ty.str].any (isTy d) = false
  sq : [Ty.list, .tuple].any (isTy d) = true
  len : biD .len [d] = some (.int 3)
  i0 : ixD d (.int 0) = some a
  i1 : ixD d (.int 1) = some b
  i2 : ixD d (.int 2) = some c
theorem sq3_T (a b c : D) : Sq3 (.tup [a, b, c]) a b c := ⟨fun _ => rfl, rfl, rfl, rfl, rfl, rfl, rfl⟩
theorem sq3_L (a b c : D) : Sq3 (.lst [a, b, c]) a b c := ⟨fun _ => rfl, rfl, rfl, rfl, rfl, rfl, rfl⟩
theorem notin_of : cmpD .NotIn (.str "of") (.tup [.str "of", .str "to"]) = some false := by rw [notin_tup rfl rfl]; simp [inFlat, eqv_str]
theorem notin_to : cmpD .NotIn (.str "to") (.tup [.str "of", .str "to"]) = some false := by rw [notin_tup rfl rfl]; simp [inFlat, eqv_str]
theorem eq_of : cmpD .Eq (.str "of") (.str "of") = some true := congrArg some (decide_eq_true rfl)
theorem eq_to : cmpD .Eq (.str "to") (.str "of") = some false := congrArg some (by decide)
theorem ne_3 : cmpD .NotEq (.int 3) (.int 3) = some false := rfl
theorem sm2 (a b : D) : small [a, b].length = true := rfl
theorem isWr_nm {f g : Nat} (h0 : T[g]? = some ⟨1, 2, isNameB⟩) (hT : T[f]? = some ⟨1, 1, isWrB g f⟩) {x : Str} (hx : nmOk x = true) (S : Sto) (n : Nat) (hn : 2 ≤ n) : run T w n f [.str x] S = some (.bl true, S) := by
  obtain ⟨n, rfl⟩ : ∃ m, n = m + 2 := ⟨n - 2, by omega⟩
  refine run_rts hT rfl rfl ?_
  have z := isName_ok (T := T) (w := w) (n := n) h0 hx S
  simp only [isWrB, List.map_cons, List.map_nil, Nat.sub_self, List.replicate_zero, List.cons_append, List.nil_append, exs, ex, ev, evs, see, List.getElem?_cons_zero, isTy, tyOf, List.any_cons, List.any_nil, beq_self_eq_true, Bool.true_or, z]
theorem isWr_of {f g : Nat} (h0 : T[g]? = some ⟨1, 2, isNameB⟩) (hT : T[f]? = some ⟨1, 1, isWrB g f⟩) {d b : D} {x : Str} (hx : nmOk x = true) (q : Sq3 d (.str "of") (.str x) b) {S : Sto} (hb : run T w (n + 1) f [b] S = some (.bl true, S)) : run T w (n + 2) f [d] S = some (.bl true, S) := by
  refine run_rts hT rfl rfl ?_
  have z := isName_ok (T := T) (w := w) (n := n) h0 hx S
  obtain ⟨q1, q2, q3, q4, q5, q6, q7⟩ := q
  simp only [isWrB, List.map_cons, List.map_nil, Nat.sub_self, List.replicate_zero, List.cons_append, List.nil_append, exs, ex, ev, evs, see_str, see_int, see_tup, q1, q2, q3, q4, q5, q6, q7, ne_3, sm2, notin_of, eq_of, seeAll, List.getElem?_cons_zero, Bool.not_true, if_true, z, hb]
theorem isWr_to {f g : Nat} (h0 : T[g]? = some ⟨1, 2, isNameB⟩) (hT : T[f]? = some ⟨1, 1, isWrB g f⟩) {d a b : D} (q : Sq3 d (.str "to") a b) {S : Sto} (ha : run T w n f [a] S = some (.bl true, S)) (hb : run T w n f [b] S = some (.bl true, S)) : run T w (n + 1) f [d] S = some (.bl true, S) := by
  refine run_rts hT rfl rfl ?_
  obtain ⟨q1, q2, q3, q4, q5, q6, q7⟩ := q
  simp only [isWrB, List.map_cons, List.map_nil, Nat.sub_self, List.replicate_zero, List.cons_append, List.nil_append, exs, ex, ev, evs, see_str, see_int, see_tup, q1, q2, q3, q4, q5, q6, q7, ne_3, sm2, notin_to, eq_to, seeAll, List.getElem?_cons_zero, Bool.not_true, if_true, ha, hb]
theorem isWr_ok {f g : Nat} (h0 : T[g]? = some ⟨1, 2, isNameB⟩) (hT : T[f]? = some ⟨1, 1, isWrB g f⟩) {S : Sto} {d : D} {W : Wr} (h : Enc d W) : (∀ x ∈ W.names, nmOk x = true) → ∀ n, W.dp + 2 ≤ n → run T w n f [d] S = some (.bl true, S) := by
  induction h with
  | nm x => exact fun hW n hn => isWr_nm h0 hT (hW x List.mem_cons_self) S n (by omega)
  | ofT _ ih | ofL _ ih =>
    intro hW n hn
    simp only [Wr.dp] at hn
    obtain ⟨n, rfl⟩ : ∃ m, n = m + 2 := ⟨n - 2, by omega⟩
    exact isWr_of h0 hT (hW _ List.mem_cons_self) (by first | exact sq3_T _ _ _ | exact sq3_L _ _ _) (ih (fun y hy => hW y (List.mem_cons_of_mem _ hy)) (n + 1) (by omega))
  | toT _ _ ih1 ih2 | toL _ _ ih1 ih2 =>
    intro hW n hn
    simp only [Wr.dp] at hn
    obtain ⟨n, rfl⟩ : ∃ m, n = m + 1 := ⟨n - 1, by omega⟩
    exact isWr_to h0 hT (by first | exact sq3_T _ _ _ | exact sq3_L _ _ _) (ih1 (fun y hy => hW y (List.mem_append_left _ hy)) n (by omega)) (ih2 (fun y hy => hW y (List.mem_append_right _ hy)) n (by omega))
def needB (wr tup : Nat) : Ss := (.cons (.ifs (.not (.call wr (.cons (.v 0) .nil))) (.cons .never .nil) .nil) (.cons (.ret (.call tup (.cons (.v 0) .nil))) .nil))
theorem need_ok {f g h k : Nat} (h0 : T[g]? = some ⟨1, 2, isNameB⟩) (h1 : T[h]? = some ⟨1, 1, isWrB g h⟩) (h2 : T[k]? = some ⟨1, 2, asTupB k⟩) (hT : T[f]? = some ⟨2, 2, needB h k⟩) {S : Sto} {d p : D} {W : Wr} (e : Enc d W) (hW : ∀ x ∈ W.names, nmOk x = true) (hn : W.dp + 2 ≤ n) :
    run T w (n + 1) f [d, p] S = some (W.enc, S) := by
  refine run_rts hT rfl rfl ?_
  have z1 := isWr_ok (w := w) h0 h1 (S := S) e hW n hn
  have z2 := asTup_ok (w := w) h2 (S := S) e n (by omega)
  simp only [needB, List.map_cons, List.map_nil, Nat.sub_self, List.replicate_zero, List.cons_append, List.nil_append, exs, ex, ev, evs, List.getElem?_cons_zero, z1, z2, Bool.not_true]

def listedC (self : Nat) : E := (.comp false (.n 1) (.v 0) (.call self (.cons (.v 1) .nil)))
def listedB (self : Nat) : Ss := (.cons (.ret (.ite (.isi (.v 0) [.str]) (.v 0) (listedC self))) .nil)
theorem listed_nm {f : Nat} (hT : T[f]? = some ⟨1, 2, listedB f⟩) (x : Str) (S : Sto) (n : Nat) (hn : 1 ≤ n) : run T w n f [.str x] S = some (.str x, S) := by
  obtain ⟨n, rfl⟩ : ∃ m, n = m + 1 := ⟨n - 1, by omega⟩
  exact run_rts hT rfl rfl rfl
theorem listed_sq {f : Nat} (hT : T[f]? = some ⟨1, 2, listedB f⟩) {a b c a' b' c' : D} {S : Sto} (ha : run T w n f [a] S = some (a', S)) (hb : run T w n f [b] S = some (b', S)) (hc : run T w n f [c] S = some (c', S)) :
    run T w (n + 1) f [.tup [a, b, c]] S = some (.lst [a', b', c'], S) := by
  refine run_rts hT rfl rfl ?_
  have z : ev (run T w n) (listedC f) [some (.tup [a, b, c]), none] S = some (.lst [a', b', c'], S) := by
    refine ev_comp3 (a := a) (b := b) (c := c) (x := .tup [a, b, c]) rfl rfl ?_ ?_ ?_
    · simp only [ev, evs, List.set_cons_succ, List.set_cons_zero, List.getElem?_cons_zero, List.getElem?_cons_succ, ha]
    · simp only [ev, evs, List.set_cons_succ, List.set_cons_zero, List.getElem?_cons_zero, List.getElem?_cons_succ, hb]
    · simp only [ev, evs, List.set_cons_succ, List.set_cons_zero, List.getElem?_cons_zero, List.getElem?_cons_succ, hc]
  have z3 : [Ty.str].any (isTy (.tup [a, b, c])) = false := rfl
  simp only [listedB, List.map_cons, List.map_nil, Nat.reduceSub, List.replicate_succ, List.replicate_zero, List.cons_append, List.nil_append, exs, ex, ev, evs, see, seeAll, List.getElem?_cons_zero, List.getElem?_cons_succ, z, z3]
theorem listed_ok {f : Nat} (hT : T[f]? = some ⟨1, 2, listedB f⟩) {S : Sto} : ∀ (W : Wr) (n : Nat), W.dp + 1 ≤ n → run T w n f [W.enc] S = some (W.encL, S)
  | .nm x, n, hn => listed_nm hT x S n (by omega)
  | .of x b, n, hn => by
    simp only [Wr.dp] at hn
    obtain ⟨n, rfl⟩ : ∃ m, n = m + 1 := ⟨n - 1, by omega⟩
    exact listed_sq hT (listed_nm hT _ S n (by omega)) (listed_nm hT _ S n (by omega)) (listed_ok hT b n (by omega))
  | .to a b, n, hn => by
    simp only [Wr.dp] at hn
    obtain ⟨n, rfl⟩ : ∃ m, n = m + 1 := ⟨n - 1, by omega⟩
    exact listed_sq hT (listed_nm hT _ S n (by omega)) (listed_ok hT a n (by omega)) (listed_ok hT b n (by omega))
def shelfE (k : Int) : E := (.comp false (.n 1) (.sl (.v 0) (.c .non) (.c (.int k))) (.bi .int (.cons (.v 1) .nil)))
def shelfB (k : Int) : Ss := (.cons (.ret (.new (.cons (shelfE k) (.cons (.c (.int 0)) (.cons (.c (.int 0)) .nil))))) .nil)
theorem shelf_ok {f k : Nat} (hT : T[f]? = some ⟨1, 2, shelfB k⟩) (hk : k ≤ 1000) (ns : List Int) : run T w (n + 1) f [.lst (ns.map D.int)] [] = some (.ref 0, [some (shelf (ns.take k) 0 0)]) := by
  have z1 : slD (.lst (ns.map D.int)) none (some (k : Int)) = some (.lst ((ns.take k).map D.int)) := by
    show some (D.lst (cutD _ _ _)) = _
    unfold cutD
    rw [HT.sIx_none, HT.sIx_nat, List.drop_zero, Nat.sub_zero, List.map_take]
    by_cases h : k ≤ ns.length
    · rw [Nat.min_eq_left (by simpa using h)]
    · rw [Nat.min_eq_right (by simp; omega), List.take_of_length_le (by simp), List.take_of_length_le (by simp; omega)]
  have z2 : ev (run T w n) (shelfE k) [some (.lst (ns.map D.int)), none] [] = some (.lst (((ns.take k).map D.int).map id), []) :=
    ev_comp (g := id) (x := .lst ((ns.take k).map D.int)) (by simp only [ev, List.getElem?_cons_zero, see, part?, z1, isNonE, isIntD, Bool.true_or, Bool.or_true, Bool.and_self, if_true]) rfl (fun d hd => by
      obtain ⟨i, _, rfl⟩ := List.mem_map.mp hd
      exact ⟨_, rfl, rfl⟩) (by simp; omega)
  rw [List.map_id] at z2
  have z3 : D.pures [.lst ((ns.take k).map D.int), .int 0, .int 0] = true := by simp only [D.pures, D.pure, pures_ints, Bool.and_self]
  rw [run_rt hT rfl (d := .ref 0) (S1 := [some (shelf (ns.take k) 0 0)])]
  · rfl
  · simp only [shelfB, List.map_cons, List.map_nil, Nat.reduceSub, List.replicate_succ, List.replicate_zero, List.cons_append, List.nil_append, exs, ex, ev, evs, z2, mkList, z3, if_true, List.length_nil, List.length_cons, small]
    rfl
end Iv

set_option Elab.async false
set_option linter.all false
set_option maxRecDepth 100000
set_option maxHeartbeats 4000000
namespace Iv
open PySem
variable {T : List Fn} {w n : Nat}
/-- the names that stand free, in order, as often as they stand -/
def Wr.occ : Wr → List Str → List Str
  | .nm x, bd => if x ∈ bd then [] else [x]
  | .of x b, bd => b.occ (bd ++ [x])
  | .to a b, bd => a.occ bd ++ b.occ bd
/-- what is new is put behind -/
def add (f : List Str) : List Str → List Str
  | [] => f
  | x :: l => add (if x ∈ f then f else f ++ [x]) l
theorem add_append : ∀ (l m f : List Str), add f (l ++ m) = add (add f l) m
  | [], _, _ => rfl
  | x :: l, m, f => by simp only [List.cons_append, add, add_append l m]
theorem add_filter (p : Str → Bool) : ∀ (l f : List Str), add (f.filter p) (l.filter p) = (add f l).filter p
  | [], _ => rfl
  | x :: l, f => by
    rw [List.filter_cons]
    cases q : p x with
    | true =>
      simp only [if_true, add]
      rw [← add_filter p l]
      congr 1
      by_cases h : x ∈ f
      · rw [if_pos h, if_pos (List.mem_filter.mpr ⟨h, q⟩)]
      · rw [if_neg h, if_neg (fun z => h (List.mem_filter.mp z).1), List.filter_append]
        simp [q]
    | false =>
      simp only [Bool.false_eq_true, if_false, add]
      rw [← add_filter p l]
      congr 1
      by_cases h : x ∈ f
      · rw [if_pos h]
      · rw [if_neg h, List.filter_append]
        simp [q]
theorem mem_add : ∀ (l f : List Str) (y : Str), y ∈ add f l ↔ y ∈ f ∨ y ∈ l
  | [], f, y => by simp [add]
  | x :: l, f, y => by
    rw [add, mem_add l]
    by_cases h : x ∈ f
    · rw [if_pos h, List.mem_cons]
      constructor
      · rintro (a | a)
        · exact .inl a
        · exact .inr (.inr a)
      · rintro (a | rfl | a)
        · exact .inl a
        · exact .inl h
        · exact .inr a
    · rw [if_neg h]
      simp [or_assoc]
theorem add_nodup : ∀ (l f : List Str), f.Nodup → (add f l).Nodup
  | [], _, h => h
  | x :: l, f, h => by
    rw [add]
    by_cases q : x ∈ f
    · rw [if_pos q]; exact add_nodup l f h
    · rw [if_neg q]
      exact add_nodup l _ (List.nodup_append.mpr ⟨h, by simp, fun a ha b hb z => by
        rw [List.mem_singleton.mp hb] at z
        exact q (z ▸ ha)⟩)
theorem add_length : ∀ (l f : List Str), (add f l).length ≤ f.length + l.length
  | [], _ => Nat.le_refl _
  | x :: l, f => by
    rw [add]
    have h := add_length l (if x ∈ f then f else f ++ [x])
    have h2 : (if x ∈ f then f else f ++ [x]).length ≤ f.length + 1 := by split <;> simp
    simp only [List.length_cons]
    omega
/-- behind f: what is in l and not in f -/
theorem add_split_r : ∀ (r f : List Str), add f r.reverse = f ++ (add [] r.reverse).filter fun x => decide (x ∉ f)
  | [], f => by simp [add]
  | x :: r, f => by
    have ih := add_split_r r f
    rw [List.reverse_cons]
    generalize r.reverse = l at ih ⊢
    have e : ∀ g : List Str, add g (l ++ [x]) = if x ∈ add g l then add g l else add g l ++ [x] := fun g => by rw [add_append]; rfl
    rw [e, e]
    by_cases h1 : x ∈ l
    · rw [if_pos ((mem_add l f x).mpr (.inr h1)), if_pos ((mem_add l [] x).mpr (.inr h1)), ih]
    · by_cases h2 : x ∈ f
      · rw [if_pos ((mem_add l f x).mpr (.inl h2)), if_neg (fun z => h1 (((mem_add l [] x).mp z).resolve_left (by simp))), ih, List.filter_append]
        simp [h2]
      · rw [if_neg (fun z => ((mem_add l f x).mp z).elim h2 h1), if_neg (fun z => h1 (((mem_add l [] x).mp z).resolve_left (by simp))), ih, List.filter_append]
        simp [h2]
theorem add_split (l f : List Str) : add f l = f ++ (add [] l).filter fun x => decide (x ∉ f) := by
  have h := add_split_r l.reverse f
  rw [List.reverse_reverse] at h
  exact h
theorem Wr.occ_filter : ∀ (W : Wr) (bd : List Str), W.occ bd = (W.occ []).filter fun x => decide (x ∉ bd)
  | .nm x, bd => by
    by_cases h : x ∈ bd <;> simp [Wr.occ, h]
  | .of x b, bd => by
    rw [Wr.occ, Wr.occ, occ_filter b (bd ++ [x]), occ_filter b ([] ++ [x]), List.filter_filter]
    congr 1
    funext y
    by_cases h1 : y ∈ bd <;> by_cases h2 : y = x <;> simp [h1, h2]
  | .to a b, bd => by
    rw [Wr.occ, Wr.occ, occ_filter a bd, occ_filter b bd, List.filter_append]
/-- the free names, each once -/
def Wr.fr (W : Wr) : List Str := add [] (W.occ [])
theorem fr_nm (x : Str) : (Wr.nm x).fr = [x] := by simp [Wr.fr, Wr.occ, add]
theorem fr_of (x : Str) (b : Wr) : (Wr.of x b).fr = b.fr.filter fun y => decide (y ≠ x) := by
  unfold Wr.fr
  rw [Wr.occ, Wr.occ_filter, ← add_filter]
  congr 2
  funext y
  simp
theorem fr_to (a b : Wr) : (Wr.to a b).fr = a.fr ++ b.fr.filter fun y => decide (y ∉ a.fr) := by
  unfold Wr.fr
  rw [Wr.occ, add_append, add_split]
theorem occ_len : ∀ (W : Wr) (bd : List Str), (W.occ bd).length ≤ W.size
  | .nm x, bd => by simp only [Wr.occ, Wr.size]; split <;> simp
  | .of x b, bd => by simp only [Wr.occ, Wr.size]; have := occ_len b (bd ++ [x]); omega
  | .to a b, bd => by simp only [Wr.occ, Wr.size, List.length_append]; have := occ_len a bd; have := occ_len b bd; omega
theorem occ_names : ∀ (W : Wr) (bd : List Str), ∀ x ∈ W.occ bd, x ∈ W.names
  | .nm x, bd, y, h => by
    simp only [Wr.occ] at h
    split at h
    · simp at h
    · exact h
  | .of x b, bd, y, h => List.mem_cons_of_mem _ (occ_names b _ y h)
  | .to a b, bd, y, h => by
    rcases List.mem_append.mp h with h | h
    · exact List.mem_append_left _ (occ_names a _ y h)
    · exact List.mem_append_right _ (occ_names b _ y h)
theorem fr_len (W : Wr) : W.fr.length ≤ W.size := by
  have h1 := add_length (W.occ []) []
  have h2 := occ_len W []
  simp only [List.length_nil] at h1
  unfold Wr.fr
  omega
theorem fr_names (W : Wr) : ∀ x ∈ W.fr, x ∈ W.names := fun x h => occ_names W [] x (((mem_add _ _ _).mp h).resolve_left (by simp))
theorem fr_nodup (W : Wr) : W.fr.Nodup := add_nodup _ _ List.nodup_nil

theorem inFlat_strs (x : Str) : ∀ l : List Str, inFlat (.str x) (l.map D.str) = decide (x ∈ l)
  | [] => rfl
  | y :: l => by
    have ih := inFlat_strs x l
    unfold inFlat at ih ⊢
    rw [List.map_cons, List.any_cons, ih, eqv_str]
    by_cases h1 : y = x <;> by_cases h2 : x ∈ l <;> simp [h1, h2, eq_comm]
    · exact fun z => h1 z.symm
theorem flats_strs : ∀ l : List Str, (l.map D.str).all D.flat = true
  | [] => rfl
  | _ :: l => by rw [List.map_cons, List.all_cons, flats_strs l]; rfl
theorem notin_strs (x : Str) (l : List Str) : cmpD .NotIn (.str x) (.lst (l.map D.str)) = some (!decide (x ∈ l)) := by
  rw [notin_lst rfl (flats_strs l), inFlat_strs]
theorem notin_strsT (x : Str) (l : List Str) : cmpD .NotIn (.str x) (.tup (l.map D.str)) = some (!decide (x ∈ l)) := by
  rw [notin_tup rfl (flats_strs l), inFlat_strs]
theorem isObj_strs : ∀ l : List Str, isObj (l.map D.str) = false
  | [] => rfl
  | _ :: _ => rfl
def gathN : Ss := (.cons (.ifs (.and (.cmp .NotIn (.v 0) (.v 1)) (.cmp .NotIn (.v 0) (.v 2))) (.cons (.ex (.meth .append (.v 2) (.cons (.v 0) .nil))) .nil) .nil) .nil)
def gathO (self : Nat) : Ss := (.cons (.ex (.call self (.cons (.ix (.v 0) (.c (.int 2))) (.cons (.lst (.star (.v 1) (.cons (.ix (.v 0) (.c (.int 1))) .nil))) (.cons (.v 2) .nil))))) .nil)
def gathT (self : Nat) : Ss := (.cons (.ex (.call self (.cons (.ix (.v 0) (.c (.int 1))) (.cons (.v 1) (.cons (.v 2) .nil))))) (.cons (.ex (.call self (.cons (.ix (.v 0) (.c (.int 2))) (.cons (.v 1) (.cons (.v 2) .nil))))) .nil))
def gathB (self : Nat) : Ss := (.cons (.ifs (.isi (.v 0) [.str]) gathN (.cons (.ifs (.cmp .Eq (.ix (.v 0) (.c (.int 0))) (.g "OF" (.str "of"))) (gathO self) (gathT self)) .nil)) .nil)
theorem gath_ok {f : Nat} (hT : T[f]? = some ⟨3, 3, gathB f⟩) {j : Nat} : ∀ (W : Wr) (n : Nat) (bd fd : List Str) (S : Sto), W.dp + 1 ≤ n → S[j]? = some (some (fd.map D.str)) → fd.length + W.size ≤ 50000 → bd.length + W.size ≤ 50000 →
    run T w n f [W.enc, .lst (bd.map D.str), .ref j] S = some (.non, S.set j (some ((add fd (W.occ bd)).map D.str)))
  | .nm x, n, bd, fd, S, hn, hS, h1, h2 => by
    obtain ⟨n, rfl⟩ : ∃ m, n = m + 1 := ⟨n - 1, by omega⟩
    have hj : j < S.length := (List.getElem?_eq_some_iff.mp hS).1
    have hset : S.set j (some (fd.map D.str)) = S := by
      apply List.ext_getElem?
      intro i
      rw [List.getElem?_set]
      split
      · rename_i h; subst h; exact hS.symm
      · rfl
    refine run_nxs (ρ := [some (.str x), some (.lst (bd.map D.str)), some (.ref j)]) hT rfl (by simp) ?_
    have z0 : [Ty.str].any (isTy (.str x)) = true := rfl
    have z1 := notin_strs x bd
    have z2 := notin_strs x fd
    simp only [gathB, Wr.enc, List.map_cons, List.map_nil, Nat.sub_self, List.replicate_zero, List.append_nil, List.cons_append, List.nil_append, exs, ex, ev, see_str, List.getElem?_cons_zero, z0]
    by_cases q1 : x ∈ bd
    · simp only [gathN, exs, ex, ev, evs, see_str, see_lst, List.getElem?_cons_zero, List.getElem?_cons_succ, z1, q1, decide_true, Bool.not_true, Wr.occ, if_true, add, hset]
    · by_cases q2 : x ∈ fd
      · simp only [gathN, exs, ex, ev, evs, see_str, see_lst, see, hS, isObj_strs, Bool.false_eq_true, Bool.not_false, Bool.true_and, List.getElem?_cons_zero, List.getElem?_cons_succ, z1, z2, q1, q2, decide_true, decide_false, Bool.not_true, Bool.not_false, Wr.occ, if_true, if_false, add, hset]
      · simp only [Wr.size] at h1
        simp only [gathN, exs, ex, ev, evs, see_str, see_lst, see, hS, isObj_strs, Bool.false_eq_true, Bool.not_false, Bool.true_and, List.getElem?_cons_zero, List.getElem?_cons_succ, z1, z2, q1, q2, decide_true, decide_false, Bool.not_true, Bool.not_false, Wr.occ, if_true, if_false, add, hset, Option.isSome_some, meD, D.pure, List.length_map, small, show fd.length + 1 ≤ 100000 by omega, Bool.and_self, List.map_append, List.map_cons, List.map_nil]
  | .of x b, n, bd, fd, S, hn, hS, h1, h2 => by
    simp only [Wr.dp] at hn
    simp only [Wr.size] at h1 h2
    obtain ⟨n, rfl⟩ : ∃ m, n = m + 1 := ⟨n - 1, by omega⟩
    refine run_nxs (ρ := [some (Wr.of x b).enc, some (.lst (bd.map D.str)), some (.ref j)]) hT rfl (by simp) ?_
    obtain ⟨q1, q2, q3, q4, q5, q6, q7⟩ := sq3_T (.str "of") (.str x) b.enc
    have ih := gath_ok (j := j) hT b n (bd ++ [x]) fd S (by omega) hS (by omega) (by simp; omega)
    rw [List.map_append, List.map_cons, List.map_nil] at ih
    have z : small (bd.map D.str ++ [D.str x]).length = true := decide_eq_true (by simp; omega)
    simp only [gathB, gathO, Wr.enc, List.map_cons, List.map_nil, Nat.sub_self, List.replicate_zero, List.append_nil, List.cons_append, List.nil_append, exs, ex, ev, evs, see_str, see_lst, q1, q2, q5, q6, q7, List.getElem?_cons_zero, List.getElem?_cons_succ, eq_of, z, if_true, ih, Wr.occ]
  | .to a b, n, bd, fd, S, hn, hS, h1, h2 => by
    simp only [Wr.dp] at hn
    simp only [Wr.size] at h1 h2
    obtain ⟨n, rfl⟩ : ∃ m, n = m + 1 := ⟨n - 1, by omega⟩
    have hj : j < S.length := (List.getElem?_eq_some_iff.mp hS).1
    refine run_nxs (ρ := [some (Wr.to a b).enc, some (.lst (bd.map D.str)), some (.ref j)]) hT rfl (by simp) ?_
    obtain ⟨q1, q2, q3, q4, q5, q6, q7⟩ := sq3_T (.str "to") a.enc b.enc
    have ih1 := gath_ok (j := j) hT a n bd fd S (by omega) hS (by omega) (by omega)
    have hl := add_length (a.occ bd) fd
    have hl2 := occ_len a bd
    have ih2 := gath_ok (j := j) hT b n bd (add fd (a.occ bd)) (S.set j (some ((add fd (a.occ bd)).map D.str))) (by omega) (by simp [List.getElem?_set, hj]) (by omega) (by omega)
    rw [List.set_set] at ih2
    simp only [gathB, gathT, Wr.enc, List.map_cons, List.map_nil, Nat.sub_self, List.replicate_zero, List.append_nil, List.cons_append, List.nil_append, exs, ex, ev, evs, see_str, see_lst, q1, q2, q5, q6, q7, List.getElem?_cons_zero, List.getElem?_cons_succ, eq_to, if_true, ih1, ih2, Wr.occ, add_append]

def freeInB (g : Nat) : Ss := (.cons (.asg (.n 1) (.new .nil)) (.cons (.ex (.call g (.cons (.v 0) (.cons (.lst .nil) (.cons (.v 1) .nil))))) (.cons (.ret (.frz 1)) .nil)))
theorem set_last {α : Type} (S : List α) (x y : α) : (S ++ [x]).set S.length y = S ++ [y] := by
  rw [List.set_append_right _ _ (Nat.le_refl _)]
  simp
theorem pures_strs : ∀ l : List Str, D.pures (l.map D.str) = true
  | [] => rfl
  | _ :: l => by simp only [List.map_cons, D.pures, D.pure, pures_strs l, Bool.and_self]
theorem freeIn_ok {f g : Nat} (h1 : T[g]? = some ⟨3, 3, gathB g⟩) (hT : T[f]? = some ⟨1, 2, freeInB g⟩) (W : Wr) (S : Sto) (hn : W.dp + 1 ≤ n) (hs : W.size ≤ 10000) (hc : clo S) : run T w (n + 1) f [W.enc] S = some (.lst (W.fr.map D.str), S) := by
  have e := gath_ok (w := w) h1 (j := S.length) W n [] [] (S ++ [some []]) hn (by simp) (by simpa using (show W.size ≤ 50000 by omega)) (by simpa using (show W.size ≤ 50000 by omega))
  rw [set_last] at e
  refine run_rtc (X := [none]) hT rfl hc (pures_strs _) ?_
  · have e' : run T w n g [W.enc, .lst [], .ref S.length] (S ++ [some []]) = _ := e
    simp only [freeInB, List.map_cons, List.map_nil, Nat.reduceSub, List.replicate_succ, List.replicate_zero, List.cons_append, List.nil_append, exs, ex, ev, evs, setT, List.set_cons_succ, List.set_cons_zero, mkList, D.pures, if_true, List.length_nil, small, Nat.zero_le, decide_true, isObj_strs, Bool.false_eq_true, if_false, List.getElem?_cons_zero, List.getElem?_cons_succ, e', List.getElem?_append_right (Nat.le_refl _), Nat.sub_self, set_last, Wr.fr]
def freeNmB (need fin : Nat) : Ss := (.cons (.ret (.bi .tuple (.cons (.call fin (.cons (.call need (.cons (.v 0) (.cons (.c (.str "writing")) .nil))) .nil)) .nil))) .nil)
/-- the defs up to free_names -/
structure Free (T : List Fn) (w f : Nat) : Prop where
  ok : ∀ (n : Nat) (d : D) (W : Wr) (S : Sto), Enc d W → (∀ x ∈ W.names, nmOk x = true) → W.dp + 4 ≤ n → W.size ≤ 10000 → clo S → run T w n f [d] S = some (.tup (W.fr.map D.str), S)
theorem free_of {f g i n0 w0 t0 nd : Nat} (a0 : T[n0]? = some ⟨1, 2, isNameB⟩) (a1 : T[w0]? = some ⟨1, 1, isWrB n0 w0⟩) (a2 : T[t0]? = some ⟨1, 2, asTupB t0⟩) (a3 : T[nd]? = some ⟨2, 2, needB w0 t0⟩) (a4 : T[g]? = some ⟨3, 3, gathB g⟩) (a5 : T[i]? = some ⟨1, 2, freeInB g⟩) (a6 : T[f]? = some ⟨1, 1, freeNmB nd i⟩) : Free T w f := by
  refine ⟨fun n d W S e hW hn hs hc => ?_⟩
  obtain ⟨n, rfl⟩ : ∃ m, n = m + 2 := ⟨n - 2, by omega⟩
  have z1 := need_ok (w := w) (n := n) a0 a1 a2 a3 (S := S) (p := .str "writing") e hW (by omega)
  have z2 := freeIn_ok (w := w) (n := n) a4 a5 W S (by omega) hs hc
  refine run_rts a6 rfl rfl ?_
  have z3 : biD .tuple [.lst (W.fr.map D.str)] = some (.tup (W.fr.map D.str)) := rfl
  simp only [freeNmB, List.map_cons, List.map_nil, Nat.sub_self, List.replicate_zero, List.append_nil, exs, ex, ev, evs, seeAll, see_lst, List.getElem?_cons_zero, z1, z2, z3]
end Iv

set_option Elab.async false
set_option linter.all false
set_option maxRecDepth 100000
set_option maxHeartbeats 4000000
namespace Iv
open PySem
variable {T : List Fn} {w n : Nat}
theorem letters_small : ∀ c ∈ (letters ++ digits).cps.toList, c < 128 := by decide
theorem nm_signs {x : Str} (h : nmOk x = true) : x.length ≤ 12 ∧ ∀ c ∈ x.cps.toList, c < 128 := by
  simp only [nmOk, Bool.and_eq_true, decide_eq_true_eq, List.all_eq_true] at h
  exact ⟨h.1.1.1.1.2, fun c hc => letters_small c (h.2 c hc)⟩
theorem nm_lay {x : Str} (h : nmOk x = true) : PyData.strOk x = true := by
  unfold PyData.strOk
  rw [← Array.all_toList, List.all_eq_true]
  intro c hc
  have := (nm_signs h).2 c hc
  exact decide_eq_true (by omega)
theorem pys_strs : ∀ l : List Str, D.pys (l.map D.str) = l.map PyData.str
  | [] => rfl
  | _ :: l => by simp only [List.map_cons, D.pys, D.py, pys_strs l]
theorem lay_strs : ∀ l : List Str, (∀ x ∈ l, nmOk x = true) → PyData.canLayAll0 (l.map PyData.str) = true
  | [], _ => rfl
  | x :: l, h => by simp only [List.map_cons, PyData.canLayAll0, PyData.canLay0, nm_lay (h x List.mem_cons_self), lay_strs l (fun y hy => h y (List.mem_cons_of_mem _ hy)), Bool.and_self]
theorem depth_strs : ∀ l : List Str, PyData.depthAll (l.map PyData.str) = 0
  | [] => rfl
  | _ :: l => by simp only [List.map_cons, PyData.depthAll, PyData.depth, depth_strs l, Nat.max_self]
theorem show_strs : ∀ l : List Str, PyData.showableAll (l.map PyData.str) = true
  | [] => rfl
  | _ :: l => by simp only [List.map_cons, PyData.showableAll, PyData.showable, show_strs l, Bool.and_self]
theorem ok_strs {l : List Str} (h : ∀ x ∈ l, nmOk x = true) : D.ok (.tup (l.map D.str)) = true := by
  simp only [D.ok, D.pure, D.py, PyData.canLay0, PyData.depth, pures_strs, pys_strs, lay_strs l h, depth_strs, Bool.and_self]
  rfl
theorem okL_strs {l : List Str} (h : ∀ x ∈ l, nmOk x = true) : D.ok (.lst (l.map D.str)) = true := by
  simp only [D.ok, D.pure, D.py, PyData.canLay0, PyData.depth, pures_strs, pys_strs, lay_strs l h, depth_strs, Bool.and_self]
  rfl
theorem eqvAll_strs : ∀ a b : List Str, PyData.eqvAll (a.map PyData.str) (b.map PyData.str) = decide (a = b)
  | [], [] => by simp [PyData.eqvAll]
  | [], _ :: _ => by simp [PyData.eqvAll]
  | _ :: _, [] => by simp [PyData.eqvAll]
  | x :: a, y :: b => by
    simp only [List.map_cons, PyData.eqvAll, PyData.eqv, eqvAll_strs a b]
    by_cases h1 : x = y <;> by_cases h2 : a = b <;> simp [h1, h2]
theorem eqv_strsT (a b : List Str) : D.eqv (.tup (a.map D.str)) (.tup (b.map D.str)) = decide (a = b) := by
  simp only [D.eqv, D.py, PyData.eqv, pys_strs, eqvAll_strs]
theorem eq_strsT {a b : List Str} (ha : ∀ x ∈ a, nmOk x = true) (hb : ∀ x ∈ b, nmOk x = true) : cmpD .Eq (.tup (a.map D.str)) (.tup (b.map D.str)) = some (decide (a = b)) := by
  show (if _ then _ else _) = _
  rw [if_pos (by rw [ok_strs ha, ok_strs hb]; rfl), eqv_strsT]
theorem ne_strsT {a b : List Str} (ha : ∀ x ∈ a, nmOk x = true) (hb : ∀ x ∈ b, nmOk x = true) : cmpD .NotEq (.tup (a.map D.str)) (.tup (b.map D.str)) = some (!decide (a = b)) := by
  show (if _ then _ else _) = _
  rw [if_pos (by rw [ok_strs ha, ok_strs hb]; rfl), eqv_strsT]
theorem piled_strs : ∀ l : List Str, (∀ x ∈ l, nmOk x = true) → piled (PyData.shownAll (l.map PyData.str)) ≤ 124 * l.length
  | [], _ => Nat.le_refl _
  | x :: l, h => by
    have h1 := nm_signs (h x List.mem_cons_self)
    have h2 := StrLaws.reprText_len x fun c hc => by have := h1.2 c hc; omega
    have ih := piled_strs l fun y hy => h y (List.mem_cons_of_mem _ hy)
    simp only [List.map_cons, PyData.shownAll, PyData.shown, piled_cons, List.length_cons]
    omega
theorem shows_strs {l : List Str} (h : ∀ x ∈ l, nmOk x = true) (hl : l.length ≤ 700) : D.shows (.tup (l.map D.str)) = true := by
  have e : (PyData.tuple (l.map PyData.str)).shown.length ≤ 100000 := by
    show (tupleText (PyData.shownAll (l.map PyData.str))).length ≤ _
    have hp := piled_strs l h
    have h3 : ∀ b : Bool, ((if b then ",)" else ")" : String) : Str).length ≤ 2 := by decide
    unfold tupleText
    rw [strLen_append, strLen_append]
    have e1 : ((("(" : String) : Str)).length = 1 := rfl
    have e2 := h3 ((PyData.shownAll (l.map PyData.str)).length == 1)
    cases q : PyData.shownAll (l.map PyData.str) with
    | nil =>
      have : (Str.join ", " ([] : List Str)).length = 0 := rfl
      rw [q] at e2
      omega
    | cons a b =>
      have hj := join_length_add (a :: b) (by simp)
      rw [q] at hp e2
      omega
  simp only [D.shows, D.pure, D.py, PyData.canLay0, PyData.depth, PyData.showable, pures_strs, pys_strs, lay_strs l h, depth_strs, show_strs, Bool.and_self, e, decide_true]
  rfl
theorem repr_strs {l : List Str} (h : ∀ x ∈ l, nmOk x = true) (hl : l.length ≤ 700) : biD .repr [.tup (l.map D.str)] = some (.str (D.py (.tup (l.map D.str))).shown) := by
  show (if _ then _ else _) = _
  rw [if_pos (shows_strs h hl)]

theorem enc_lay : ∀ W : Wr, (∀ x ∈ W.names, nmOk x = true) → W.enc.py.canLay0 = true ∧ W.enc.py.depth ≤ W.dp
  | .nm x, h => ⟨nm_lay (h x List.mem_cons_self), Nat.le_refl _⟩
  | .of x b, h => by
    obtain ⟨i1, i2⟩ := enc_lay b fun y hy => h y (List.mem_cons_of_mem _ hy)
    have hx := nm_lay (h x List.mem_cons_self)
    have ho : PyData.strOk "of" = true := by decide +kernel
    refine ⟨by simp only [Wr.enc, D.py, D.pys, PyData.canLay0, PyData.canLayAll0, ho, hx, i1, Bool.and_self], ?_⟩
    simp only [Wr.enc, D.py, D.pys, PyData.depth, PyData.depthAll, Wr.dp]
    omega
  | .to a b, h => by
    obtain ⟨i1, i2⟩ := enc_lay a fun y hy => h y (List.mem_append_left _ hy)
    obtain ⟨j1, j2⟩ := enc_lay b fun y hy => h y (List.mem_append_right _ hy)
    have ho : PyData.strOk "to" = true := by decide +kernel
    refine ⟨by simp only [Wr.enc, D.py, D.pys, PyData.canLay0, PyData.canLayAll0, ho, i1, j1, Bool.and_self], ?_⟩
    simp only [Wr.enc, D.py, D.pys, PyData.depth, PyData.depthAll, Wr.dp]
    omega
/-- a part with the names around it -/
def itm (t : Wr × List Str) : D := .tup [t.1.enc, .lst (t.2.map D.str)]
/-- what stands on the stack -/
structure TOk (t : Wr × List Str) : Prop where
  nm : ∀ x ∈ t.1.names, nmOk x = true
  ar : ∀ x ∈ t.2, nmOk x = true
  dp : t.1.dp ≤ 150
  le : t.2.length + t.1.size ≤ 5000
theorem itms_ok : ∀ ts : List (Wr × List Str), (∀ t ∈ ts, TOk t) → D.pures (ts.map itm) = true ∧ PyData.canLayAll0 (D.pys (ts.map itm)) = true ∧ PyData.depthAll (D.pys (ts.map itm)) ≤ 152
  | [], _ => ⟨rfl, rfl, Nat.zero_le _⟩
  | t :: ts, h => by
    obtain ⟨i1, i2, i3⟩ := itms_ok ts fun u hu => h u (List.mem_cons_of_mem _ hu)
    obtain ⟨h1, h2, h3, h4⟩ := h t List.mem_cons_self
    obtain ⟨j1, j2⟩ := enc_lay t.1 h1
    refine ⟨by simp only [List.map_cons, D.pures, itm, D.pure, t.1.pure_enc, pures_strs, i1, Bool.and_self], by simp only [List.map_cons, D.pys, itm, D.py, PyData.canLayAll0, PyData.canLay0, j1, pys_strs, lay_strs _ h2, i2, Bool.and_self], ?_⟩
    simp only [List.map_cons, D.pys, itm, D.py, PyData.depthAll, PyData.depth, pys_strs, depth_strs]
    omega
theorem stack_ok {ts : List (Wr × List Str)} (h : ∀ t ∈ ts, TOk t) : cmpD .NotEq (.lst (ts.map itm)) (.lst []) = some (!ts.isEmpty) := by
  obtain ⟨i1, i2, i3⟩ := itms_ok ts h
  have e : D.ok (.lst (ts.map itm)) = true := by
    simp only [D.ok, D.pure, D.py, PyData.canLay0, PyData.depth, i1, i2, Bool.and_self, Bool.true_and]
    exact decide_eq_true (by omega)
  show (if _ then _ else _) = _
  rw [if_pos (by rw [e, ok_nil]; rfl), eqv_nil]
  cases ts <;> rfl
def scN : Ss := (.cons (.ifs (.cmp .NotIn (.v 3) (.op .Add (.v 4) (.v 2))) (.cons (.ex (.meth .append (.v 2) (.cons (.v 3) .nil))) .nil) .nil) .nil)
def scO : Ss := (.cons (.ex (.meth .append (.v 1) (.cons (.tup (.cons (.ix (.v 3) (.c (.int 2))) (.cons (.op .Add (.v 4) (.lst (.cons (.ix (.v 3) (.c (.int 1))) .nil))) .nil))) .nil))) .nil)
def scT : Ss := (.cons (.ex (.meth .extend (.v 1) (.cons (.lst (.cons (.tup (.cons (.ix (.v 3) (.c (.int 2))) (.cons (.v 4) .nil))) (.cons (.tup (.cons (.ix (.v 3) (.c (.int 1))) (.cons (.v 4) .nil))) .nil))) .nil))) .nil)
def scB : Ss := (.cons (.asg (.t [3, 4]) (.meth .pop (.v 1) .nil)) (.cons (.ifs (.isi (.v 3) [.str]) scN (.cons (.ifs (.cmp .Eq (.ix (.v 3) (.c (.int 0))) (.c (.str "of"))) scO scT) .nil)) .nil))
def scC : E := (.cmp .NotEq (.v 1) (.lst .nil))
def scannedB : Ss := (.cons (.par [1, 2] (.cons (.new (.cons (.tup (.cons (.v 0) (.cons (.lst .nil) .nil))) .nil)) (.cons (.new .nil) .nil))) (.cons (.wh scC scB) (.cons (.ret (.frz 2)) .nil)))
/-- the stack, its top first -/
def stk (ts : List (Wr × List Str)) : List D := ts.reverse.map itm
theorem stk_cons (t : Wr × List Str) (ts : List (Wr × List Str)) : stk (t :: ts) = stk ts ++ [itm t] := by simp [stk]
def wt : List (Wr × List Str) → Nat
  | [] => 0
  | t :: ts => t.1.size + wt ts
theorem wt_len : ∀ ts : List (Wr × List Str), ts.length ≤ wt ts
  | [] => Nat.le_refl _
  | t :: ts => by have := wt_len ts; have := t.1.size_pos; simp only [wt, List.length_cons]; omega
def proc : List (Wr × List Str) → List Str → List Str
  | [], fd => fd
  | t :: ts, fd => proc ts (add fd (t.1.occ t.2))
theorem idx_p (S : Sto) (a b : Option (List D)) : (S ++ [a, b])[S.length]? = some a := by simp
theorem idx_q (S : Sto) (a b : Option (List D)) : (S ++ [a, b])[S.length + 1]? = some b := by simp
theorem set_p (S : Sto) (a b c : Option (List D)) : (S ++ [a, b]).set S.length c = S ++ [c, b] := by
  rw [List.set_append_right _ _ (Nat.le_refl _)]; simp
theorem set_q (S : Sto) (a b c : Option (List D)) : (S ++ [a, b]).set (S.length + 1) c = S ++ [a, c] := by
  rw [List.set_append_right _ _ (by omega)]; simp
end Iv

set_option Elab.async false
set_option linter.all false
set_option maxRecDepth 100000
set_option maxHeartbeats 4000000
namespace Lk03
open PySem PySem.Spec PyProof.Rows L2 Iv
def top (i : Nat) : Stmt := PySem.Challenge.pw_timesagain_k03_signs_layers_places.main.body.getD i (.Pass ⟨0, 0, 0, 0⟩)
def cst (i j : Nat) : Stmt := match top i with
  | .ClassDef _ _ _ b _ _ _ _ _ _ _ => b.getD j (.Pass ⟨0, 0, 0, 0⟩)
  | s => s
def b_is_integer : Ss := (.cons (.ret (.and (.isi (.v 0) [.int]) (.not (.isi (.v 0) [.bool])))) .nil)
def d_is_integer : DefI := ⟨"is_integer", none, "is_integer", ["value"], ["value"], ⟨1, 1, b_is_integer⟩, defArgs (top 12), defBody (top 12), defScope (top 12)⟩
def b_is_within : Ss := (.cons (.ifs (.or (.not (.call 0 (.cons (.v 0) .nil))) (.and (.cmp .IsNot (.v 1) (.c .non)) (.cmp .Lt (.v 0) (.v 1)))) (.cons (.ret (.c (.bl false))) .nil) .nil) (.cons (.ret (.or (.cmp .Is (.v 2) (.c .non)) (.cmp .LtE (.v 0) (.v 2)))) .nil))
def d_is_within : DefI := ⟨"is_within", none, "is_within", ["value", "least", "most"], ["value", "least", "most"], ⟨3, 3, b_is_within⟩, defArgs (top 13), defBody (top 13), defScope (top 13)⟩
def b_is_name : Ss := (.cons (.ifs (.or (.not (.isi (.v 0) [.str])) (.or (.not (.chain .LtE .LtE (.c (.int 1)) (.bi .len (.cons (.v 0) .nil)) (.g "MOST_NAME" (.int 12)))) (.or (.cmp .In (.v 0) (.g "WORDS" (.tup [(.str "of"), (.str "to")]))) (.cmp .NotIn (.ix (.v 0) (.c (.int 0))) (.g "LETTERS" (.str "abcdefghijklmnopqrstuvwxyz")))))) (.cons (.ret (.c (.bl false))) .nil) .nil) (.cons (.ret (.bi .all (.cons (.comp false (.n 1) (.v 0) (.cmp .In (.v 1) (.op .Add (.g "LETTERS" (.str "abcdefghijklmnopqrstuvwxyz")) (.g "DIGITS" (.str "0123456789"))))) .nil))) .nil))
def d_is_name : DefI := ⟨"is_name", none, "is_name", ["value"], ["value", "sign"], ⟨1, 2, b_is_name⟩, defArgs (top 14), defBody (top 14), defScope (top 14)⟩
def b_need_name : Ss := (.cons (.ifs (.not (.call 2 (.cons (.v 0) .nil))) (.cons .never .nil) .nil) .nil)
def d_need_name : DefI := ⟨"need_name", none, "need_name", ["value"], ["value"], ⟨1, 1, b_need_name⟩, defArgs (top 15), defBody (top 15), defScope (top 15)⟩
def b_as_tuples : Ss := (.cons (.ret (.ite (.isi (.v 0) [.list, .tuple]) (.bi .tuple (.cons (.comp false (.n 1) (.v 0) (.call 4 (.cons (.v 1) .nil))) .nil)) (.v 0))) .nil)
def d_as_tuples : DefI := ⟨"as_tuples", none, "as_tuples", ["value"], ["value", "part"], ⟨1, 2, b_as_tuples⟩, defArgs (top 16), defBody (top 16), defScope (top 16)⟩
def b_Scan_init : Ss := (.cons (.ifs (.not (.isi (.v 1) [.str])) (.cons .never .nil) .nil) (.cons (.setf "Scan" (.v 0) "items_left" (.meth .split (.v 1) (.cons (.c (.str " ")) .nil))) (.cons (.setf "Scan" (.v 0) "spot" (.c (.int 0))) .nil)))
def d_Scan_init : DefI := ⟨"__init__", some "Scan", "Scan.__init__", ["self", "text"], ["self", "text"], ⟨2, 2, b_Scan_init⟩, defArgs (cst 18 0), defBody (cst 18 0), defScope (cst 18 0)⟩
def b_Scan_is_over : Ss := (.cons (.ret (.cmp .Eq (.fld "Scan" (.v 0) "spot") (.bi .len (.cons (.fld "Scan" (.v 0) "items_left") .nil)))) .nil)
def d_Scan_is_over : DefI := ⟨"is_over", some "Scan", "Scan.is_over", ["self"], ["self"], ⟨1, 1, b_Scan_is_over⟩, defArgs (cst 18 1), defBody (cst 18 1), defScope (cst 18 1)⟩
def b_Scan_seen : Ss := (.cons (.ret (.ite (.mcall "Scan" "is_over" 6 (.v 0) .nil) (.c .non) (.ix (.fld "Scan" (.v 0) "items_left") (.fld "Scan" (.v 0) "spot")))) .nil)
def d_Scan_seen : DefI := ⟨"seen", some "Scan", "Scan.seen", ["self"], ["self"], ⟨1, 1, b_Scan_seen⟩, defArgs (cst 18 2), defBody (cst 18 2), defScope (cst 18 2)⟩
def b_Scan_refuse : Ss := (.cons .never .nil)
def d_Scan_refuse : DefI := ⟨"refuse", some "Scan", "Scan.refuse", ["self"], ["self"], ⟨1, 1, b_Scan_refuse⟩, defArgs (cst 18 3), defBody (cst 18 3), defScope (cst 18 3)⟩
def b_Scan_refuse_last : Ss := (.cons .never .nil)
def d_Scan_refuse_last : DefI := ⟨"refuse_last", some "Scan", "Scan.refuse_last", ["self"], ["self"], ⟨1, 1, b_Scan_refuse_last⟩, defArgs (cst 18 4), defBody (cst 18 4), defScope (cst 18 4)⟩
def b_Scan_take : Ss := (.cons (.asg (.n 1) (.mcall "Scan" "seen" 7 (.v 0) .nil)) (.cons (.ifs (.cmp .Is (.v 1) (.c .non)) (.cons (.ex (.mcall "Scan" "refuse" 8 (.v 0) .nil)) .nil) .nil) (.cons (.setf "Scan" (.v 0) "spot" (.op .Add (.fld "Scan" (.v 0) "spot") (.c (.int 1)))) (.cons (.ret (.v 1)) .nil))))
def d_Scan_take : DefI := ⟨"take", some "Scan", "Scan.take", ["self"], ["self", "item"], ⟨1, 2, b_Scan_take⟩, defArgs (cst 18 5), defBody (cst 18 5), defScope (cst 18 5)⟩
def b_Scan_finish : Ss := (.cons (.ifs (.not (.mcall "Scan" "is_over" 6 (.v 0) .nil)) (.cons (.ex (.mcall "Scan" "refuse" 8 (.v 0) .nil)) .nil) .nil) .nil)
def d_Scan_finish : DefI := ⟨"finish", some "Scan", "Scan.finish", ["self"], ["self"], ⟨1, 1, b_Scan_finish⟩, defArgs (cst 18 6), defBody (cst 18 6), defScope (cst 18 6)⟩
def b_is_writing : Ss := (.cons (.ifs (.isi (.v 0) [.str]) (.cons (.ret (.call 2 (.cons (.v 0) .nil))) .nil) .nil) (.cons (.ifs (.or (.not (.isi (.v 0) [.list, .tuple])) (.or (.cmp .NotEq (.bi .len (.cons (.v 0) .nil)) (.c (.int 3))) (.cmp .NotIn (.ix (.v 0) (.c (.int 0))) (.tup (.cons (.g "OF" (.str "of")) (.cons (.g "TO" (.str "to")) .nil)))))) (.cons (.ret (.c (.bl false))) .nil) .nil) (.cons (.ifs (.cmp .Eq (.ix (.v 0) (.c (.int 0))) (.g "OF" (.str "of"))) (.cons (.ret (.and (.call 2 (.cons (.ix (.v 0) (.c (.int 1))) .nil)) (.call 12 (.cons (.ix (.v 0) (.c (.int 2))) .nil)))) .nil) .nil) (.cons (.ret (.and (.call 12 (.cons (.ix (.v 0) (.c (.int 1))) .nil)) (.call 12 (.cons (.ix (.v 0) (.c (.int 2))) .nil)))) .nil))))
def d_is_writing : DefI := ⟨"is_writing", none, "is_writing", ["value"], ["value"], ⟨1, 1, b_is_writing⟩, defArgs (top 22), defBody (top 22), defScope (top 22)⟩
def b_need_writing : Ss := (.cons (.ifs (.not (.call 12 (.cons (.v 0) .nil))) (.cons .never .nil) .nil) (.cons (.ret (.call 4 (.cons (.v 0) .nil))) .nil))
def d_need_writing : DefI := ⟨"need_writing", none, "need_writing", ["value", "part"], ["value", "part"], ⟨2, 2, b_need_writing⟩, defArgs (top 23), defBody (top 23), defScope (top 23)⟩
def b_signs_in : Ss := (.cons (.ifs (.isi (.v 0) [.str]) (.cons (.ret (.c (.int 1))) .nil) .nil) (.cons (.ret (.op .Add (.op .Add (.c (.int 1)) (.call 14 (.cons (.ix (.v 0) (.c (.int 2))) .nil))) (.ite (.cmp .Eq (.ix (.v 0) (.c (.int 0))) (.g "TO" (.str "to"))) (.call 14 (.cons (.ix (.v 0) (.c (.int 1))) .nil)) (.c (.int 0))))) .nil))
def d_signs_in : DefI := ⟨"signs_in", none, "signs_in", ["writing"], ["writing"], ⟨1, 1, b_signs_in⟩, defArgs (top 24), defBody (top 24), defScope (top 24)⟩
def b_layers_in : Ss := (.cons (.ifs (.isi (.v 0) [.str]) (.cons (.ret (.c (.int 1))) .nil) .nil) (.cons (.ret (.op .Add (.c (.int 1)) (.bi .max2 (.cons (.call 15 (.cons (.ix (.v 0) (.c (.int 2))) .nil)) (.cons (.call 15 (.cons (.ix (.v 0) (.c (.int 1))) .nil)) .nil))))) .nil))
def d_layers_in : DefI := ⟨"layers_in", none, "layers_in", ["writing"], ["writing"], ⟨1, 1, b_layers_in⟩, defArgs (top 25), defBody (top 25), defScope (top 25)⟩
def b_gather_free : Ss := (.cons (.ifs (.isi (.v 0) [.str]) (.cons (.ifs (.and (.cmp .NotIn (.v 0) (.v 1)) (.cmp .NotIn (.v 0) (.v 2))) (.cons (.ex (.meth .append (.v 2) (.cons (.v 0) .nil))) .nil) .nil) .nil) (.cons (.ifs (.cmp .Eq (.ix (.v 0) (.c (.int 0))) (.g "OF" (.str "of"))) (.cons (.ex (.call 16 (.cons (.ix (.v 0) (.c (.int 2))) (.cons (.lst (.star (.v 1) (.cons (.ix (.v 0) (.c (.int 1))) .nil))) (.cons (.v 2) .nil))))) .nil) (.cons (.ex (.call 16 (.cons (.ix (.v 0) (.c (.int 1))) (.cons (.v 1) (.cons (.v 2) .nil))))) (.cons (.ex (.call 16 (.cons (.ix (.v 0) (.c (.int 2))) (.cons (.v 1) (.cons (.v 2) .nil))))) .nil))) .nil)) .nil)
def d_gather_free : DefI := ⟨"gather_free", none, "gather_free", ["writing", "bound", "found"], ["writing", "bound", "found"], ⟨3, 3, b_gather_free⟩, defArgs (top 26), defBody (top 26), defScope (top 26)⟩
def b_free_in : Ss := (.cons (.asg (.n 1) (.new .nil)) (.cons (.ex (.call 16 (.cons (.v 0) (.cons (.lst .nil) (.cons (.v 1) .nil))))) (.cons (.ret (.frz 1)) .nil)))
def d_free_in : DefI := ⟨"free_in", none, "free_in", ["writing"], ["writing", "found"], ⟨1, 2, b_free_in⟩, defArgs (top 27), defBody (top 27), defScope (top 27)⟩
def b_names_in : Ss := (.cons (.ifs (.isi (.v 0) [.str]) (.cons (.ret (.lst (.cons (.v 0) .nil))) .nil) .nil) (.cons (.ret (.lst (.star (.call 18 (.cons (.ix (.v 0) (.c (.int 1))) .nil)) (.star (.call 18 (.cons (.ix (.v 0) (.c (.int 2))) .nil)) .nil)))) .nil))
def d_names_in : DefI := ⟨"names_in", none, "names_in", ["writing"], ["writing"], ⟨1, 1, b_names_in⟩, defArgs (top 28), defBody (top 28), defScope (top 28)⟩
def b_fresh_name : Ss := (.cons (.asg (.n 2) (.comp false (.n 3) (.rng (.c (.int 0)) (.op .Add (.bi .len (.cons (.v 1) .nil)) (.c (.int 1)))) (.js (.cons (.fmt (.ix (.v 0) (.c (.int 0)))) (.cons (.fmt (.v 3)) .nil))))) (.cons (.ret (.ix (.compI false (.n 4) (.v 2) (.cmp .NotIn (.v 4) (.v 1)) (.v 4)) (.c (.int 0)))) .nil))
def d_fresh_name : DefI := ⟨"fresh_name", none, "fresh_name", ["name", "taken"], ["name", "taken", "fresh", "number", "each"], ⟨2, 5, b_fresh_name⟩, defArgs (top 29), defBody (top 29), defScope (top 29)⟩
def b_put_in : Ss := (.cons (.ifs (.isi (.v 0) [.str]) (.cons (.ret (.ite (.cmp .Eq (.v 0) (.v 1)) (.v 2) (.v 0))) .nil) .nil) (.cons (.ifs (.cmp .Eq (.ix (.v 0) (.c (.int 0))) (.g "TO" (.str "to"))) (.cons (.ret (.tup (.cons (.g "TO" (.str "to")) (.cons (.call 20 (.cons (.ix (.v 0) (.c (.int 1))) (.cons (.v 1) (.cons (.v 2) (.cons (.v 3) .nil))))) (.cons (.call 20 (.cons (.ix (.v 0) (.c (.int 2))) (.cons (.v 1) (.cons (.v 2) (.cons (.v 3) .nil))))) .nil))))) .nil) .nil) (.cons (.par [4, 5] (.cons (.ix (.v 0) (.c (.int 1))) (.cons (.ix (.v 0) (.c (.int 2))) .nil))) (.cons (.ifs (.cmp .Eq (.v 4) (.v 1)) (.cons (.ret (.v 0)) .nil) .nil) (.cons (.ifs (.and (.cmp .In (.v 4) (.v 3)) (.cmp .In (.v 1) (.call 17 (.cons (.v 5) .nil)))) (.cons (.asg (.n 6) (.call 19 (.cons (.v 4) (.cons (.lst (.cons (.v 1) (.star (.v 3) (.star (.call 18 (.cons (.v 5) .nil)) .nil)))) .nil)))) (.cons (.par [4, 5] (.cons (.v 6) (.cons (.call 20 (.cons (.v 5) (.cons (.v 4) (.cons (.v 6) (.cons (.lst (.cons (.v 6) .nil)) .nil))))) .nil))) .nil)) .nil) (.cons (.ret (.tup (.cons (.g "OF" (.str "of")) (.cons (.v 4) (.cons (.call 20 (.cons (.v 5) (.cons (.v 1) (.cons (.v 2) (.cons (.v 3) .nil))))) .nil))))) .nil))))))
def d_put_in : DefI := ⟨"put_in", none, "put_in", ["writing", "name", "other", "shut"], ["writing", "name", "other", "shut", "own", "body", "fresh"], ⟨4, 7, b_put_in⟩, defArgs (top 30), defBody (top 30), defScope (top 30)⟩
def b_put_for : Ss := (.cons (.ret (.call 20 (.cons (.v 0) (.cons (.v 1) (.cons (.v 2) (.cons (.call 17 (.cons (.v 2) .nil)) .nil)))))) .nil)
def d_put_for : DefI := ⟨"put_for", none, "put_for", ["writing", "name", "other"], ["writing", "name", "other"], ⟨3, 3, b_put_for⟩, defArgs (top 31), defBody (top 31), defScope (top 31)⟩
def b_take_writing : Ss := (.cons (.asg (.n 1) (.mcall "Scan" "take" 10 (.v 0) .nil)) (.cons (.ifs (.cmp .Eq (.v 1) (.g "OF" (.str "of"))) (.cons (.asg (.n 2) (.mcall "Scan" "take" 10 (.v 0) .nil)) (.cons (.ifs (.not (.call 2 (.cons (.v 2) .nil))) (.cons (.ex (.mcall "Scan" "refuse_last" 9 (.v 0) .nil)) .nil) .nil) (.cons (.ret (.tup (.cons (.g "OF" (.str "of")) (.cons (.v 2) (.cons (.call 22 (.cons (.v 0) .nil)) .nil))))) .nil))) .nil) (.cons (.ifs (.cmp .Eq (.v 1) (.g "TO" (.str "to"))) (.cons (.ret (.tup (.cons (.g "TO" (.str "to")) (.cons (.call 22 (.cons (.v 0) .nil)) (.cons (.call 22 (.cons (.v 0) .nil)) .nil))))) .nil) .nil) (.cons (.ifs (.not (.call 2 (.cons (.v 1) .nil))) (.cons (.ex (.mcall "Scan" "refuse_last" 9 (.v 0) .nil)) .nil) .nil) (.cons (.ret (.v 1)) .nil)))))
def d_take_writing : DefI := ⟨"take_writing", none, "take_writing", ["scan"], ["scan", "item", "name"], ⟨1, 3, b_take_writing⟩, defArgs (top 32), defBody (top 32), defScope (top 32)⟩
def b_items_of : Ss := (.cons (.ifs (.isi (.v 0) [.str]) (.cons (.ret (.lst (.cons (.v 0) .nil))) .nil) .nil) (.cons (.ret (.lst (.cons (.ix (.v 0) (.c (.int 0))) (.star (.call 23 (.cons (.ix (.v 0) (.c (.int 1))) .nil)) (.star (.call 23 (.cons (.ix (.v 0) (.c (.int 2))) .nil)) .nil))))) .nil))
def d_items_of : DefI := ⟨"items_of", none, "items_of", ["writing"], ["writing"], ⟨1, 1, b_items_of⟩, defArgs (top 33), defBody (top 33), defScope (top 33)⟩
def b_signs_of : Ss := (.cons (.ret (.call 14 (.cons (.call 13 (.cons (.v 0) (.cons (.c (.str "writing")) .nil))) .nil))) .nil)
def d_signs_of : DefI := ⟨"signs_of", none, "signs_of", ["writing"], ["writing"], ⟨1, 1, b_signs_of⟩, defArgs (top 34), defBody (top 34), defScope (top 34)⟩
def b_layers_of : Ss := (.cons (.ret (.call 15 (.cons (.call 13 (.cons (.v 0) (.cons (.c (.str "writing")) .nil))) .nil))) .nil)
def d_layers_of : DefI := ⟨"layers_of", none, "layers_of", ["writing"], ["writing"], ⟨1, 1, b_layers_of⟩, defArgs (top 35), defBody (top 35), defScope (top 35)⟩
def b_put : Ss := (.cons (.asg (.n 3) (.call 13 (.cons (.v 0) (.cons (.c (.str "writing")) .nil)))) (.cons (.ex (.call 3 (.cons (.v 1) .nil))) (.cons (.ret (.call 21 (.cons (.v 3) (.cons (.v 1) (.cons (.call 13 (.cons (.v 2) (.cons (.c (.str "other")) .nil))) .nil))))) .nil)))
def d_put : DefI := ⟨"put", none, "put", ["writing", "name", "other"], ["writing", "name", "other", "told"], ⟨3, 4, b_put⟩, defArgs (top 36), defBody (top 36), defScope (top 36)⟩
def b_writing_text : Ss := (.cons (.ret (.meth .join (.c (.str " ")) (.cons (.call 23 (.cons (.call 13 (.cons (.v 0) (.cons (.c (.str "writing")) .nil))) .nil)) .nil))) .nil)
def d_writing_text : DefI := ⟨"writing_text", none, "writing_text", ["writing"], ["writing"], ⟨1, 1, b_writing_text⟩, defArgs (top 37), defBody (top 37), defScope (top 37)⟩
def b_read_writing : Ss := (.cons (.asg (.n 1) (.mko "Scan" 55 (.cons (.v 0) .nil))) (.cons (.asg (.n 2) (.call 22 (.cons (.v 1) .nil))) (.cons (.ex (.mcall "Scan" "finish" 11 (.v 1) .nil)) (.cons (.ret (.v 2)) .nil))))
def d_read_writing : DefI := ⟨"read_writing", none, "read_writing", ["text"], ["text", "scan", "found"], ⟨1, 3, b_read_writing⟩, defArgs (top 38), defBody (top 38), defScope (top 38)⟩
def b_places_in : Ss := (.cons (.ifs (.isi (.v 0) [.str]) (.cons (.ret (.lst (.cons (.tup .nil) .nil))) .nil) .nil) (.cons (.ifs (.cmp .Eq (.ix (.v 0) (.c (.int 0))) (.g "OF" (.str "of"))) (.cons (.ret (.lst (.cons (.tup .nil) (.star (.comp false (.n 1) (.call 29 (.cons (.ix (.v 0) (.c (.int 2))) .nil)) (.tup (.cons (.c (.int 0)) (.star (.v 1) .nil)))) .nil)))) .nil) .nil) (.cons (.ret (.lst (.cons (.tup .nil) (.star (.comp false (.n 1) (.call 29 (.cons (.ix (.v 0) (.c (.int 1))) .nil)) (.tup (.cons (.c (.int 0)) (.star (.v 1) .nil)))) (.star (.comp false (.n 1) (.call 29 (.cons (.ix (.v 0) (.c (.int 2))) .nil)) (.tup (.cons (.c (.int 1)) (.star (.v 1) .nil)))) .nil))))) .nil)))
def d_places_in : DefI := ⟨"places_in", none, "places_in", ["writing"], ["writing", "way"], ⟨1, 2, b_places_in⟩, defArgs (top 40), defBody (top 40), defScope (top 40)⟩
def b_part_in : Ss := (.cons (.for (.n 2) (.v 1) (.cons (.asg (.n 0) (.ite (.cmp .Eq (.ix (.v 0) (.c (.int 0))) (.g "OF" (.str "of"))) (.ix (.v 0) (.c (.int 2))) (.ix (.v 0) (.op .Add (.c (.int 1)) (.v 2))))) .nil)) (.cons (.ret (.v 0)) .nil))
def d_part_in : DefI := ⟨"part_in", none, "part_in", ["writing", "place"], ["writing", "place", "step"], ⟨2, 3, b_part_in⟩, defArgs (top 41), defBody (top 41), defScope (top 41)⟩
def b_is_place : Ss := (.cons (.ifs (.not (.isi (.v 1) [.list, .tuple])) (.cons (.ret (.c (.bl false))) .nil) .nil) (.cons (.for (.n 2) (.v 1) (.cons (.ifs (.or (.isi (.v 0) [.str]) (.not (.call 1 (.cons (.v 2) (.cons (.c (.int 0)) (.cons (.ite (.cmp .Eq (.ix (.v 0) (.c (.int 0))) (.g "OF" (.str "of"))) (.c (.int 0)) (.c (.int 1))) .nil)))))) (.cons (.ret (.c (.bl false))) .nil) .nil) (.cons (.asg (.n 0) (.ite (.cmp .Eq (.ix (.v 0) (.c (.int 0))) (.g "OF" (.str "of"))) (.ix (.v 0) (.c (.int 2))) (.ix (.v 0) (.op .Add (.c (.int 1)) (.v 2))))) .nil))) (.cons (.ret (.c (.bl true))) .nil)))
def d_is_place : DefI := ⟨"is_place", none, "is_place", ["writing", "value"], ["writing", "value", "step"], ⟨2, 3, b_is_place⟩, defArgs (top 42), defBody (top 42), defScope (top 42)⟩
def b_need_place : Ss := (.cons (.ifs (.not (.call 31 (.cons (.v 0) (.cons (.v 1) .nil)))) (.cons .never .nil) .nil) (.cons (.ret (.bi .tuple (.cons (.v 1) .nil))) .nil))
def d_need_place : DefI := ⟨"need_place", none, "need_place", ["writing", "value"], ["writing", "value"], ⟨2, 2, b_need_place⟩, defArgs (top 43), defBody (top 43), defScope (top 43)⟩
def b_places_of : Ss := (.cons (.ret (.bi .tuple (.cons (.call 29 (.cons (.call 13 (.cons (.v 0) (.cons (.c (.str "writing")) .nil))) .nil)) .nil))) .nil)
def d_places_of : DefI := ⟨"places_of", none, "places_of", ["writing"], ["writing"], ⟨1, 1, b_places_of⟩, defArgs (top 44), defBody (top 44), defScope (top 44)⟩
def b_part_at : Ss := (.cons (.asg (.n 2) (.call 13 (.cons (.v 0) (.cons (.c (.str "writing")) .nil)))) (.cons (.ret (.call 30 (.cons (.v 2) (.cons (.call 32 (.cons (.v 2) (.cons (.v 1) .nil))) .nil)))) .nil))
def d_part_at : DefI := ⟨"part_at", none, "part_at", ["writing", "place"], ["writing", "place", "told"], ⟨2, 3, b_part_at⟩, defArgs (top 45), defBody (top 45), defScope (top 45)⟩
def b__law_rack : Ss := (.cons (.ret (.new (.cons (.comp false (.n 1) (.sl (.v 0) (.c .non) (.c (.int 60))) (.bi .int (.cons (.v 1) .nil))) (.cons (.c (.int 0)) (.cons (.c (.int 0)) .nil))))) .nil)
def d__law_rack : DefI := ⟨"_law_rack", none, "_law_rack", ["script"], ["script", "cell"], ⟨1, 2, b__law_rack⟩, defArgs (top 47), defBody (top 47), defScope (top 47)⟩
def b__law_take : Ss := (.cons (.ifs (.cmp .Gt (.ix (.v 0) (.c (.int 2))) (.c (.int 0))) (.cons (.asg (.n 5) (.ix (.v 0) (.c (.int 2)))) (.cons (.put (.v 0) (.c (.int 2)) (.op .FloorDiv (.bi .int (.cons (.v 5) .nil)) (.v 1))) (.cons (.ret (.op .Mod (.bi .int (.cons (.v 5) .nil)) (.v 1))) .nil))) .nil) (.cons (.asg (.n 2) (.ix (.v 0) (.c (.int 1)))) (.cons (.put (.v 0) (.c (.int 1)) (.op .Add (.v 2) (.c (.int 1)))) (.cons (.asg (.n 3) (.op .Add (.op .Mult (.c (.int 83003)) (.v 2)) (.c (.int 5003)))) (.cons (.ifs (.cmp .NotEq (.ix (.v 0) (.c (.int 0))) (.lst .nil)) (.cons (.asg (.n 3) (.ix (.ix (.v 0) (.c (.int 0))) (.op .Mod (.bi .int (.cons (.v 2) .nil)) (.bi .len (.cons (.ix (.v 0) (.c (.int 0))) .nil))))) .nil) .nil) (.cons (.ifs (.and (.cmp .Lt (.v 2) (.bi .len (.cons (.ix (.v 0) (.c (.int 0))) .nil))) (.cmp .GtE (.bi .abs (.cons (.v 3) .nil)) (.op .Pow (.c (.int 10)) (.c (.int 18))))) (.cons (.asg (.n 5) (.op .Add (.op .Mult (.c (.int 2)) (.op .Sub (.bi .abs (.cons (.v 3) .nil)) (.op .Pow (.c (.int 10)) (.c (.int 18))))) (.bi .int (.cons (.cmp .Lt (.v 3) (.c (.int 0))) .nil)))) (.cons (.put (.v 0) (.c (.int 2)) (.op .FloorDiv (.bi .int (.cons (.v 5) .nil)) (.v 1))) (.cons (.ret (.op .Mod (.bi .int (.cons (.v 5) .nil)) (.v 1))) .nil))) .nil) (.cons (.asg (.n 4) (.op .Mod (.bi .int (.cons (.op .Pow (.op .Add (.op .Add (.op .Mod (.bi .int (.cons (.v 3) .nil)) (.c (.int 2147483587))) (.op .Mult (.c (.int 63001)) (.v 2))) (.c (.int 5003))) (.c (.int 5))) .nil)) (.c (.int 2147483489)))) (.cons (.asg (.n 4) (.op .Mod (.bi .int (.cons (.op .Pow (.op .Add (.op .Add (.op .Mult (.v 4) (.op .Add (.op .Mult (.c (.int 2)) (.v 2)) (.c (.int 2549)))) (.op .Mult (.op .Mult (.c (.int 83003)) (.v 2)) (.v 2))) (.c (.int 63001))) (.c (.int 3))) .nil)) (.c (.int 2147483629)))) (.cons (.ret (.op .Mod (.bi .int (.cons (.op .FloorDiv (.v 4) (.c (.int 64))) .nil)) (.v 1))) .nil)))))))))
def d__law_take : DefI := ⟨"_law_take", none, "_law_take", ["rack", "many"], ["rack", "many", "turn", "cell", "mixed", "held"], ⟨2, 6, b__law_take⟩, defArgs (top 48), defBody (top 48), defScope (top 48)⟩
def b__law_pick : Ss := (.cons (.ret (.ix (.v 1) (.call 36 (.cons (.v 0) (.cons (.bi .len (.cons (.v 1) .nil)) .nil))))) .nil)
def d__law_pick : DefI := ⟨"_law_pick", none, "_law_pick", ["rack", "some"], ["rack", "some"], ⟨2, 2, b__law_pick⟩, defArgs (top 49), defBody (top 49), defScope (top 49)⟩
def b__law_drawn : Ss := (.cons (.ifs (.cmp .Eq (.v 1) (.c (.int 1))) (.cons (.ret (.call 37 (.cons (.v 0) (.cons (.v 2) .nil)))) .nil) .nil) (.cons (.ifs (.or (.cmp .Eq (.v 1) (.c (.int 2))) (.and (.cmp .Lt (.v 1) (.c (.int 21))) (.cmp .Gt (.call 36 (.cons (.v 0) (.cons (.c (.int 3)) .nil))) (.c (.int 0))))) (.cons (.ret (.tup (.cons (.c (.str "of")) (.cons (.call 37 (.cons (.v 0) (.cons (.v 2) .nil))) (.cons (.call 38 (.cons (.v 0) (.cons (.op .Sub (.v 1) (.c (.int 1))) (.cons (.v 2) .nil)))) .nil))))) .nil) .nil) (.cons (.asg (.n 3) (.ite (.cmp .Lt (.v 1) (.c (.int 21))) (.op .Add (.c (.int 1)) (.call 36 (.cons (.v 0) (.cons (.op .Sub (.v 1) (.c (.int 2))) .nil)))) (.op .Add (.bi .int (.cons (.op .FloorDiv (.v 1) (.c (.int 3))) .nil)) (.call 36 (.cons (.v 0) (.cons (.bi .int (.cons (.op .FloorDiv (.v 1) (.c (.int 3))) .nil)) .nil)))))) (.cons (.ret (.tup (.cons (.c (.str "to")) (.cons (.call 38 (.cons (.v 0) (.cons (.v 3) (.cons (.v 2) .nil)))) (.cons (.call 38 (.cons (.v 0) (.cons (.op .Sub (.op .Sub (.v 1) (.c (.int 1))) (.v 3)) (.cons (.v 2) .nil)))) .nil))))) .nil))))
def d__law_drawn : DefI := ⟨"_law_drawn", none, "_law_drawn", ["rack", "signs", "names"], ["rack", "signs", "names", "first"], ⟨3, 4, b__law_drawn⟩, defArgs (top 50), defBody (top 50), defScope (top 50)⟩
def b__law_listed : Ss := (.cons (.ret (.ite (.isi (.v 0) [.str]) (.v 0) (.comp true (.n 1) (.v 0) (.call 39 (.cons (.v 1) .nil))))) .nil)
def d__law_listed : DefI := ⟨"_law_listed", none, "_law_listed", ["value"], ["value", "part"], ⟨1, 2, b__law_listed⟩, defArgs (top 51), defBody (top 51), defScope (top 51)⟩
def b__law_walked : Ss := (.cons (.par [1, 2] (.cons (.new (.cons (.tup (.cons (.tup .nil) (.cons (.v 0) .nil))) .nil)) (.cons (.new .nil) .nil))) (.cons (.wh (.cmp .NotEq (.v 1) (.lst .nil)) (.cons (.asg (.t [3, 4]) (.meth .pop (.v 1) .nil)) (.cons (.ex (.meth .append (.v 2) (.cons (.tup (.cons (.v 3) (.cons (.v 4) .nil))) .nil))) (.cons (.ifs (.not (.isi (.v 4) [.str])) (.cons (.ifs (.cmp .Eq (.ix (.v 4) (.c (.int 0))) (.c (.str "to"))) (.cons (.ex (.meth .append (.v 1) (.cons (.tup (.cons (.op .Add (.v 3) (.tup (.cons (.c (.int 1)) .nil))) (.cons (.ix (.v 4) (.c (.int 2))) .nil))) .nil))) .nil) .nil) (.cons (.ex (.meth .append (.v 1) (.cons (.tup (.cons (.op .Add (.v 3) (.tup (.cons (.c (.int 0)) .nil))) (.cons (.ite (.cmp .Eq (.ix (.v 4) (.c (.int 0))) (.c (.str "to"))) (.ix (.v 4) (.c (.int 1))) (.ix (.v 4) (.c (.int 2)))) .nil))) .nil))) .nil)) .nil) .nil)))) (.cons (.ret (.frz 2)) .nil)))
def d__law_walked : DefI := ⟨"_law_walked", none, "_law_walked", ["writing"], ["writing", "left", "found", "way", "part"], ⟨1, 5, b__law_walked⟩, defArgs (top 52), defBody (top 52), defScope (top 52)⟩
def b__law_items : Ss := (.cons (.par [1, 2] (.cons (.new (.cons (.v 0) .nil)) (.cons (.new .nil) .nil))) (.cons (.wh (.cmp .NotEq (.v 1) (.lst .nil)) (.cons (.asg (.n 3) (.meth .pop (.v 1) .nil)) (.cons (.ifs (.isi (.v 3) [.str]) (.cons (.ex (.meth .append (.v 2) (.cons (.v 3) .nil))) .nil) (.cons (.ifs (.cmp .Eq (.ix (.v 3) (.c (.int 0))) (.c (.str "of"))) (.cons (.ex (.meth .extend (.v 2) (.cons (.lst (.cons (.c (.str "of")) (.cons (.ix (.v 3) (.c (.int 1))) .nil))) .nil))) (.cons (.ex (.meth .append (.v 1) (.cons (.ix (.v 3) (.c (.int 2))) .nil))) .nil)) (.cons (.ex (.meth .append (.v 2) (.cons (.c (.str "to")) .nil))) (.cons (.ex (.meth .extend (.v 1) (.cons (.lst (.cons (.ix (.v 3) (.c (.int 2))) (.cons (.ix (.v 3) (.c (.int 1))) .nil))) .nil))) .nil))) .nil)) .nil))) (.cons (.ret (.frz 2)) .nil)))
def d__law_items : DefI := ⟨"_law_items", none, "_law_items", ["writing"], ["writing", "left", "found", "part"], ⟨1, 4, b__law_items⟩, defArgs (top 53), defBody (top 53), defScope (top 53)⟩
def b__law_is_name : Ss := (.cons (.ifs (.or (.not (.isi (.v 0) [.str])) (.or (.cmp .In (.v 0) (.tup (.cons (.c (.str "")) (.cons (.c (.str "of")) (.cons (.c (.str "to")) .nil))))) (.cmp .Gt (.bi .len (.cons (.v 0) .nil)) (.c (.int 12))))) (.cons (.ret (.c (.bl false))) .nil) .nil) (.cons (.ret (.and (.cmp .In (.ix (.v 0) (.c (.int 0))) (.bi .list (.cons (.c (.str "abcdefghijklmnopqrstuvwxyz")) .nil))) (.cmp .Eq (.compI false (.n 1) (.v 0) (.cmp .NotIn (.v 1) (.c (.str "abcdefghijklmnopqrstuvwxyz0123456789"))) (.v 1)) (.lst .nil)))) .nil))
def d__law_is_name : DefI := ⟨"_law_is_name", none, "_law_is_name", ["value"], ["value", "sign"], ⟨1, 2, b__law_is_name⟩, defArgs (top 54), defBody (top 54), defScope (top 54)⟩
def b__law_is : Ss := (.cons (.ifs (.or (.isi (.v 0) [.str]) (.or (.not (.isi (.v 0) [.list, .tuple])) (.cmp .NotEq (.bi .len (.cons (.v 0) .nil)) (.c (.int 3))))) (.cons (.ret (.call 42 (.cons (.v 0) .nil))) .nil) .nil) (.cons (.ifs (.or (.not (.isi (.ix (.v 0) (.c (.int 0))) [.str])) (.or (.cmp .NotIn (.ix (.v 0) (.c (.int 0))) (.tup (.cons (.c (.str "of")) (.cons (.c (.str "to")) .nil)))) (.not (.call 43 (.cons (.ix (.v 0) (.c (.int 2))) .nil))))) (.cons (.ret (.c (.bl false))) .nil) .nil) (.cons (.ret (.ite (.cmp .Eq (.ix (.v 0) (.c (.int 0))) (.c (.str "of"))) (.call 42 (.cons (.ix (.v 0) (.c (.int 1))) .nil)) (.call 43 (.cons (.ix (.v 0) (.c (.int 1))) .nil)))) .nil)))
def d__law_is : DefI := ⟨"_law_is", none, "_law_is", ["value"], ["value"], ⟨1, 1, b__law_is⟩, defArgs (top 55), defBody (top 55), defScope (top 55)⟩
def b__law_bent : Ss := (.cons (.ifs (.cmp .Eq (.v 1) (.tup .nil)) (.cons (.ret (.v 2)) .nil) .nil) (.cons (.asg (.n 3) (.call 39 (.cons (.v 0) .nil))) (.cons (.asg (.n 4) (.ite (.cmp .Eq (.ix (.v 0) (.c (.int 0))) (.c (.str "of"))) (.c (.int 2)) (.op .Add (.c (.int 1)) (.ix (.v 1) (.c (.int 0)))))) (.cons (.put (.v 3) (.v 4) (.call 44 (.cons (.ix (.v 0) (.v 4)) (.cons (.sl (.v 1) (.c (.int 1)) (.c .non)) (.cons (.v 2) .nil))))) (.cons (.ret (.frzD 3)) .nil)))))
def d__law_bent : DefI := ⟨"_law_bent", none, "_law_bent", ["writing", "way", "other"], ["writing", "way", "other", "found", "spot"], ⟨3, 5, b__law_bent⟩, defArgs (top 56), defBody (top 56), defScope (top 56)⟩
def b__law_strange : Ss := (.cons (.asg (.n 0) (.new (.cons (.c .non) (.cons (.c (.int 5)) (.cons (.c (.bl true)) (.cons (.c (.int 0)) (.cons (.tup .nil) (.cons (.lst .nil) (.cons (.dct []) (.cons (.c (.str "")) (.cons (.c (.str "of")) (.cons (.c (.str "to")) (.cons (.c (.str "A")) (.cons (.c (.str "a b")) (.cons (.op .Mult (.c (.str "x")) (.c (.int 13))) (.cons (.op .Mult (.c (.str "x")) (.c (.int 12))) (.cons (.c (.str "1a")) (.cons (.c (.str "a_")) (.cons (.c (.str "ofx")) (.cons (.c (.str "to9")) (.cons (.c (.str "x\n")) (.cons (.tup (.cons (.c (.str "of")) (.cons (.c (.str "x")) .nil))) .nil)))))))))))))))))))))) (.cons (.ex (.meth .extend (.v 0) (.cons (.lst (.cons (.tup (.cons (.c (.str "to")) (.cons (.c (.str "a")) .nil))) (.cons (.tup (.cons (.c (.str "of")) (.cons (.c (.str "x")) (.cons (.c (.str "y")) (.cons (.c (.str "z")) .nil))))) (.cons (.tup (.cons (.c (.str "to")) (.cons (.c (.str "a")) (.cons (.c (.str "b")) (.cons (.c (.str "c")) .nil))))) (.cons (.tup (.cons (.c (.str "of")) (.cons (.c (.str "of")) (.cons (.c (.str "x")) .nil)))) (.cons (.tup (.cons (.c (.str "of")) (.cons (.c (.str "X")) (.cons (.c (.str "x")) .nil)))) (.cons (.tup (.cons (.c (.str "of")) (.cons (.c (.int 5)) (.cons (.c (.str "x")) .nil)))) (.cons (.tup (.cons (.c (.str "of")) (.cons (.lst (.cons (.c (.str "x")) .nil)) (.cons (.c (.str "x")) .nil)))) .nil)))))))) .nil))) (.cons (.ex (.meth .extend (.v 0) (.cons (.lst (.cons (.tup (.cons (.c (.str "to")) (.cons (.c (.str "a")) (.cons (.c .non) .nil)))) (.cons (.tup (.cons (.c (.str "to")) (.cons (.c (.str "to")) (.cons (.c (.str "a")) .nil)))) (.cons (.tup (.cons (.c (.str "of")) (.cons (.tup (.cons (.c (.str "of")) (.cons (.c (.str "x")) (.cons (.c (.str "x")) .nil)))) (.cons (.c (.str "x")) .nil)))) (.cons (.lst (.cons (.c (.str "of")) (.cons (.c (.str "x")) (.cons (.lst (.cons (.c (.str "to")) (.cons (.c (.str "x")) (.cons (.c (.str "x")) .nil)))) .nil)))) (.cons (.tup (.cons (.c (.str "in")) (.cons (.c (.str "x")) (.cons (.c (.str "y")) .nil)))) (.cons (.tup (.cons (.c (.str "OF")) (.cons (.c (.str "x")) (.cons (.c (.str "x")) .nil)))) .nil))))))) .nil))) (.cons (.ret (.op .Add (.v 0) (.lst (.cons (.tup (.cons (.tup (.cons (.c (.str "of")) .nil)) (.cons (.c (.str "x")) (.cons (.c (.str "x")) .nil)))) (.cons (.lst (.cons (.c (.str "to")) (.cons (.lst (.cons (.c (.str "a")) .nil)) (.cons (.c (.str "b")) .nil)))) (.cons (.lst (.cons (.c (.str "to")) (.cons (.c (.str "a")) (.cons (.tup (.cons (.c (.str "b")) .nil)) .nil)))) (.cons (.dct [("of", "x")]) (.cons (.tup (.cons (.c (.str "of")) (.cons (.c (.str "x")) (.cons (.c (.str "of")) .nil)))) (.cons (.tup (.cons (.c (.int 0)) (.cons (.c (.str "x")) (.cons (.c (.str "x")) .nil)))) (.cons (.tup (.cons (.c (.str "")) (.cons (.c (.str "x")) (.cons (.c (.str "x")) .nil)))) (.cons (.c (.str "abc")) (.cons (.c (.str "tot")) .nil)))))))))))) .nil))))
def d__law_strange : DefI := ⟨"_law_strange", none, "_law_strange", [], ["found"], ⟨0, 1, b__law_strange⟩, defArgs (top 57), defBody (top 57), defScope (top 57)⟩
def b__law_told_right : Ss := (.cons (.par [2, 3, 4] (.cons (.call 40 (.cons (.v 1) .nil)) (.cons (.call 41 (.cons (.v 1) .nil)) (.cons (.call 39 (.cons (.v 1) .nil)) .nil)))) (.cons (.frzD 4) (.cons (.asg (.n 5) (.comp false (.t [9, 10]) (.v 2) (.v 9))) (.cons (.par [6, 7] (.cons (.bi .len (.cons (.compI false (.n 12) (.v 3) (.cmp .NotEq (.v 12) (.c (.str "of"))) (.v 12)) .nil)) (.cons (.op .Add (.c (.int 1)) (.bi .maxl (.cons (.comp false (.n 9) (.v 5) (.bi .len (.cons (.v 9) .nil))) .nil))) .nil))) (.cons (.ifs (.or (.cmp .IsNot (.callK 12 .nil (.cons (.v 1) Es.nil) [0]) (.c (.bl true))) (.or (.cmp .IsNot (.call 12 (.cons (.v 4) .nil)) (.c (.bl true))) (.cmp .NotEq (.bi .len (.cons (.v 5) .nil)) (.v 6)))) (.cons (.ret (.c (.bl false))) .nil) .nil) (.cons (.ifs (.or (.cmp .NotEq (.bi .repr (.cons (.callK 24 .nil (.cons (.v 4) Es.nil) [0]) .nil)) (.bi .repr (.cons (.v 6) .nil))) (.or (.cmp .NotEq (.bi .repr (.cons (.callK 25 .nil (.cons (.v 4) Es.nil) [0]) .nil)) (.bi .repr (.cons (.v 7) .nil))) (.or (.cmp .NotEq (.call 24 (.cons (.v 1) .nil)) (.v 6)) (.cmp .NotEq (.call 25 (.cons (.v 1) .nil)) (.v 7))))) (.cons (.ret (.c (.bl false))) .nil) .nil) (.cons (.asg (.n 8) (.callK 33 .nil (.cons (.call 37 (.cons (.v 0) (.cons (.lst (.cons (.v 1) (.cons (.v 4) .nil))) .nil))) Es.nil) [0])) (.cons (.ifs (.or (.cmp .NotEq (.bi .repr (.cons (.v 8) .nil)) (.bi .repr (.cons (.bi .tuple (.cons (.v 5) .nil)) .nil))) (.cmp .NotEq (.bi .list (.cons (.v 8) .nil)) (.bi .sorted (.cons (.v 5) .nil)))) (.cons (.ret (.c (.bl false))) .nil) .nil) (.cons (.for (.t [9, 10]) (.v 2) (.cons (.ifs (.or (.cmp .NotEq (.bi .repr (.cons (.call 34 (.cons (.v 1) (.cons (.v 9) .nil))) .nil)) (.bi .repr (.cons (.v 10) .nil))) (.cmp .NotEq (.bi .repr (.cons (.callK 34 .nil (.cons (.bi .list (.cons (.v 9) .nil)) (.cons (.v 4) Es.nil)) [1, 0]) .nil)) (.bi .repr (.cons (.v 10) .nil)))) (.cons (.ret (.c (.bl false))) .nil) .nil) .nil)) (.cons (.asg (.n 11) (.callK 27 .nil (.cons (.v 4) Es.nil) [0])) (.cons (.ret (.and (.cmp .Eq (.v 11) (.meth .join (.c (.str " ")) (.cons (.v 3) .nil))) (.and (.cmp .Eq (.call 27 (.cons (.v 1) .nil)) (.v 11)) (.and (.cmp .Eq (.bi .repr (.cons (.call 28 (.cons (.v 11) .nil)) .nil)) (.bi .repr (.cons (.v 1) .nil))) (.cmp .Eq (.callK 28 .nil (.cons (.v 11) Es.nil) [0]) (.v 1)))))) .nil)))))))))))
def d__law_told_right : DefI := ⟨"_law_told_right", none, "_law_told_right", ["rack", "writing"], ["rack", "writing", "pairs", "items", "listed", "ways", "signs", "layers", "told", "way", "part", "text", "item"], ⟨2, 13, b__law_told_right⟩, defArgs (top 58), defBody (top 58), defScope (top 58)⟩
def b__law_looked_right : Ss := (.cons (.par [2, 3] (.cons (.call 40 (.cons (.v 1) .nil)) (.cons (.call 45 .nil) .nil))) (.cons (.for (.n 4) (.rng (.c (.int 0)) (.c (.int 6))) (.cons (.asg (.t [5, 6]) (.call 37 (.cons (.v 0) (.cons (.v 2) .nil)))) (.cons (.asg (.n 7) (.call 44 (.cons (.v 1) (.cons (.v 5) (.cons (.call 37 (.cons (.v 0) (.cons (.v 3) .nil))) .nil))))) (.cons (.ifs (.cmp .NotEq (.bi .repr (.cons (.call 12 (.cons (.v 7) .nil)) .nil)) (.bi .repr (.cons (.call 43 (.cons (.v 7) .nil)) .nil))) (.cons (.ret (.c (.bl false))) .nil) .nil) .nil)))) (.cons (.asg (.n 3) (.op .Add (.v 3) (.lst (.cons (.lst (.cons (.lst (.cons (.c (.str "of")) .nil)) (.cons (.c (.str "x")) (.cons (.c (.str "x")) .nil)))) (.cons (.tup (.cons (.dct []) (.cons (.c (.str "x")) (.cons (.c (.str "x")) .nil)))) (.cons (.lst (.cons (.c (.str "of")) (.cons (.dct []) (.cons (.c (.str "x")) .nil)))) (.cons (.tup (.cons (.c (.str "to")) (.cons (.dct []) (.cons (.c (.str "x")) .nil)))) (.cons (.tup (.cons (.lst .nil) (.cons (.c (.str "x")) (.cons (.c (.str "x")) .nil)))) (.cons (.tup (.cons (.c (.str "of")) (.cons (.c (.str "x")) (.cons (.dct []) .nil)))) (.cons (.tup (.cons (.lst (.cons (.c (.str "to")) .nil)) (.cons (.c (.str "a")) (.cons (.c (.str "b")) .nil)))) .nil)))))))))) (.cons (.ret (.cmp .Eq (.compI false (.n 7) (.v 3) (.cmp .NotEq (.bi .repr (.cons (.call 12 (.cons (.v 7) .nil)) .nil)) (.bi .repr (.cons (.call 43 (.cons (.v 7) .nil)) .nil))) (.v 7)) (.lst .nil))) .nil))))
def d__law_looked_right : DefI := ⟨"_law_looked_right", none, "_law_looked_right", ["rack", "writing"], ["rack", "writing", "pairs", "some", "turn", "way", "part", "value"], ⟨2, 8, b__law_looked_right⟩, defArgs (top 59), defBody (top 59), defScope (top 59)⟩
def b__law_far_right : Ss := (.cons (.par [1, 2] (.cons (.call 36 (.cons (.v 0) (.cons (.c (.int 3)) .nil))) (.cons (.c (.str "x")) .nil))) (.cons (.for (.n 3) (.rng (.c (.int 0)) (.c (.int 45))) (.cons (.asg (.n 2) (.ite (.cmp .Eq (.v 1) (.c (.int 0))) (.tup (.cons (.c (.str "to")) (.cons (.c (.str "f")) (.cons (.v 2) .nil)))) (.ite (.cmp .Eq (.v 1) (.c (.int 1))) (.tup (.cons (.c (.str "to")) (.cons (.v 2) (.cons (.c (.str "f")) .nil)))) (.tup (.cons (.c (.str "of")) (.cons (.c (.str "y")) (.cons (.v 2) .nil))))))) .nil)) (.cons (.asg (.n 4) (.v 2)) (.cons (.for (.n 3) (.rng (.c (.int 0)) (.op .Add (.c (.int 1)) (.call 36 (.cons (.v 0) (.cons (.c (.int 3)) .nil))))) (.cons (.asg (.n 4) (.call 26 (.cons (.v 4) (.cons (.c (.str "x")) (.cons (.v 2) .nil))))) .nil)) (.cons (.asg (.n 5) (.call 40 (.cons (.v 4) .nil))) (.cons (.asg (.n 6) (.comp false (.t [8, 9]) (.v 5) (.v 8))) (.cons (.asg (.n 7) (.op .Add (.c (.int 1)) (.bi .maxl (.cons (.comp false (.n 8) (.v 6) (.bi .len (.cons (.v 8) .nil))) .nil)))) (.cons (.ifs (.or (.cmp .IsNot (.call 12 (.cons (.v 4) .nil)) (.c (.bl true))) (.or (.cmp .NotEq (.bi .repr (.cons (.call 24 (.cons (.v 4) .nil)) .nil)) (.bi .repr (.cons (.bi .len (.cons (.v 6) .nil)) .nil))) (.or (.cmp .NotEq (.bi .repr (.cons (.call 25 (.cons (.v 4) .nil)) .nil)) (.bi .repr (.cons (.v 7) .nil))) (.cmp .NotEq (.call 33 (.cons (.v 4) .nil)) (.bi .tuple (.cons (.v 6) .nil)))))) (.cons (.ret (.c (.bl false))) .nil) .nil) (.cons (.ifs (.cmp .NotEq (.compI false (.t [8, 9]) (.op .Add (.stp (.v 5) 40) (.sl (.v 5) (.neg (.c (.int 2))) (.c .non))) (.cmp .NotEq (.call 34 (.cons (.v 4) (.cons (.v 8) .nil))) (.v 9)) (.v 8)) (.lst .nil)) (.cons (.ret (.c (.bl false))) .nil) .nil) (.cons (.ret (.and (.cmp .Eq (.op .Mod (.v 7) (.c (.int 45))) (.c (.int 1))) (.and (.cmp .Gt (.v 7) (.c (.int 90))) (.cmp .Eq (.call 27 (.cons (.v 4) .nil)) (.meth .join (.c (.str " ")) (.cons (.call 41 (.cons (.v 4) .nil)) .nil)))))) .nil))))))))))
def d__law_far_right : DefI := ⟨"_law_far_right", none, "_law_far_right", ["rack"], ["rack", "side", "chain", "turn", "long", "pairs", "ways", "layers", "way", "part"], ⟨1, 10, b__law_far_right⟩, defArgs (top 60), defBody (top 60), defScope (top 60)⟩
def b_law : Ss := (.cons (.asg (.n 1) (.call 35 (.cons (.v 0) .nil))) (.cons (.for (.n 2) (.rng (.c (.int 0)) (.c (.int 3))) (.cons (.asg (.n 4) (.call 37 (.cons (.v 1) (.cons (.lst (.cons (.lst (.cons (.c (.str "x")) (.cons (.c (.str "y")) .nil))) (.cons (.lst (.cons (.c (.str "f")) (.cons (.c (.str "x")) (.cons (.c (.str "ofx")) .nil)))) (.cons (.lst (.cons (.c (.str "abcdefghijkl")) (.cons (.c (.str "a")) (.cons (.c (.str "to1")) .nil)))) (.cons (.lst (.cons (.c (.str "z9")) (.cons (.c (.str "z")) .nil))) .nil))))) .nil)))) (.cons (.asg (.n 5) (.call 38 (.cons (.v 1) (.cons (.op .Add (.c (.int 1)) (.call 36 (.cons (.v 1) (.cons (.c (.int 20)) .nil)))) (.cons (.v 4) .nil))))) (.cons (.ifs (.or (.not (.call 46 (.cons (.v 1) (.cons (.v 5) .nil)))) (.not (.call 47 (.cons (.v 1) (.cons (.v 5) .nil))))) (.cons (.ret (.c (.bl false))) .nil) .nil) .nil)))) (.cons (.asg (.n 3) (.call 36 (.cons (.v 1) (.cons (.c (.int 3)) .nil)))) (.cons (.ifs (.cmp .Eq (.v 3) (.c (.int 0))) (.cons (.ret (.call 46 (.cons (.v 1) (.cons (.call 38 (.cons (.v 1) (.cons (.op .Sub (.c (.int 200)) (.call 36 (.cons (.v 1) (.cons (.c (.int 9)) .nil)))) (.cons (.lst (.cons (.c (.str "x")) (.cons (.c (.str "y")) (.cons (.c (.str "f")) .nil)))) .nil)))) .nil)))) .nil) .nil) (.cons (.ret (.or (.cmp .Gt (.v 3) (.c (.int 1))) (.call 48 (.cons (.v 1) .nil)))) .nil)))))
def d_law : DefI := ⟨"law", none, "law", ["script"], ["script", "rack", "lap", "way", "names", "writing"], ⟨1, 6, b_law⟩, defArgs (top 61), defBody (top 61), defScope (top 61)⟩
def Ds : List DefI := [d_is_integer, d_is_within, d_is_name, d_need_name, d_as_tuples, d_Scan_init, d_Scan_is_over, d_Scan_seen, d_Scan_refuse, d_Scan_refuse_last, d_Scan_take, d_Scan_finish, d_is_writing, d_need_writing, d_signs_in, d_layers_in, d_gather_free, d_free_in, d_names_in, d_fresh_name, d_put_in, d_put_for, d_take_writing, d_items_of, d_signs_of, d_layers_of, d_put, d_writing_text, d_read_writing, d_places_in, d_part_in, d_is_place, d_need_place, d_places_of, d_part_at, d__law_rack, d__law_take, d__law_pick, d__law_drawn, d__law_listed, d__law_walked, d__law_items, d__law_is_name, d__law_is, d__law_bent, d__law_strange, d__law_told_right, d__law_looked_right, d__law_far_right, d_law]
theorem kw_read_writing_0_text : KwOk d_read_writing 0 ["text"] [0] := fun _ _ _ _ _ _ us ws h1 h2 => match us, ws, h1, h2 with | [], [_], _, _ => rfl
theorem kw_writing_text_0_writing : KwOk d_writing_text 0 ["writing"] [0] := fun _ _ _ _ _ _ us ws h1 h2 => match us, ws, h1, h2 with | [], [_], _, _ => rfl
theorem kw_part_at_0_place_writing : KwOk d_part_at 0 ["place", "writing"] [1, 0] := fun _ _ _ _ _ _ us ws h1 h2 => match us, ws, h1, h2 with | [], [_, _], _, _ => rfl
theorem kw_places_of_0_writing : KwOk d_places_of 0 ["writing"] [0] := fun _ _ _ _ _ _ us ws h1 h2 => match us, ws, h1, h2 with | [], [_], _, _ => rfl
theorem kw_layers_of_0_writing : KwOk d_layers_of 0 ["writing"] [0] := fun _ _ _ _ _ _ us ws h1 h2 => match us, ws, h1, h2 with | [], [_], _, _ => rfl
theorem kw_signs_of_0_writing : KwOk d_signs_of 0 ["writing"] [0] := fun _ _ _ _ _ _ us ws h1 h2 => match us, ws, h1, h2 with | [], [_], _, _ => rfl
theorem kw_is_writing_0_value : KwOk d_is_writing 0 ["value"] [0] := fun _ _ _ _ _ _ us ws h1 h2 => match us, ws, h1, h2 with | [], [_], _, _ => rfl
/-- what the top has left beside the defs -/
structure Zs (K : PySem.W.Frag) (mg : Str → Option Value) : Prop where
  g_DIGITS : GlobOk K mg "DIGITS" (.str "0123456789")
  g_LETTERS : GlobOk K mg "LETTERS" (.str "abcdefghijklmnopqrstuvwxyz")
  g_MOST_NAME : GlobOk K mg "MOST_NAME" (.int 12)
  g_OF : GlobOk K mg "OF" (.str "of")
  g_TO : GlobOk K mg "TO" (.str "to")
  g_WORDS : GlobOk K mg "WORDS" (.tup [(.str "of"), (.str "to")])
  f_abs : mg "abs" = none
  f_all : mg "all" = none
  f_bool : mg "bool" = none
  f_int : mg "int" = none
  f_isinstance : mg "isinstance" = none
  f_len : mg "len" = none
  f_list : mg "list" = none
  f_max : mg "max" = none
  f_range : mg "range" = none
  f_repr : mg "repr" = none
  f_sorted : mg "sorted" = none
  f_str : mg "str" = none
  f_tuple : mg "tuple" = none
  c_Scan : Cls K (He.ga K "Scan")
  n_Scan_items_left : NoAttr K (He.ga K "Scan") "items_left"
  n_Scan_spot : NoAttr K (He.ga K "Scan") "spot"
section
variable {P : Program} {w : World} {K : PySem.W.Frag} {mg : Str → Option Value} {base : Heap} {k : Nat} {f : Addr} {cdv : Value} {A : Around} {outer : List PySem.Env} {s : Shared} {H : Hp}
theorem ok_is_integer (Z : Zs K mg) (B : BodyOk (BodyX P w K mg base ["value"] "is_integer" (defScope (top 12)) f cdv A outer s H) Ds 1000000 k) :
    PSs (BodyX P w K mg base ["value"] "is_integer" (defScope (top 12)) f cdv A outer s H) (defBody (top 12)) (tSs K (run (Fns Ds) 1000000 k) 1000000 b_is_integer) :=
  (ss_cons (s_ret (i_and (i_is1 (by rfl) Z.f_isinstance (i_v (i := 0) (by rfl) (by first | exact .inl rfl | exact .inr (.inl rfl) | exact .inr (.inr rfl))) (ty_ok (t := .int) (by rfl) Z.f_int boot_int)) (i_one (i_not (i_is1 (by rfl) Z.f_isinstance (i_v (i := 0) (by rfl) (by first | exact .inl rfl | exact .inr (.inl rfl) | exact .inr (.inr rfl))) (ty_ok (t := .bool) (by rfl) Z.f_bool boot_bool)))))) ss_nil)
theorem ok_is_within (Z : Zs K mg) (B : BodyOk (BodyX P w K mg base ["value", "least", "most"] "is_within" (defScope (top 13)) f cdv A outer s H) Ds 1000000 k) :
    PSs (BodyX P w K mg base ["value", "least", "most"] "is_within" (defScope (top 13)) f cdv A outer s H) (defBody (top 13)) (tSs K (run (Fns Ds) 1000000 k) 1000000 b_is_within) :=
  (ss_cons (s_if (t_w (w_or (t_not (t_e (i_call B.ok (by rfl) (B.call 0 d_is_integer rfl rfl) (a_cons (i_v (i := 0) (by rfl) (by first | exact .inl rfl | exact .inr (.inl rfl) | exact .inr (.inr rfl))) a_nil)))) (w_or1 (t_w (w_and (t_cmp B.ok (i_v (i := 1) (by rfl) (by first | exact .inl rfl | exact .inr (.inl rfl) | exact .inr (.inr rfl))) i_non) (w_and1 (t_cmp B.ok (i_v (i := 0) (by rfl) (by first | exact .inl rfl | exact .inr (.inl rfl) | exact .inr (.inr rfl))) (i_v (i := 1) (by rfl) (by first | exact .inl rfl | exact .inr (.inl rfl) | exact .inr (.inr rfl)))))))))) (ss_cons (s_ret i_bl) ss_nil) ss_nil) (ss_cons (s_ret (i_or (i_cmp B.ok (i_v (i := 2) (by rfl) (by first | exact .inl rfl | exact .inr (.inl rfl) | exact .inr (.inr rfl))) i_non) (i_one (i_cmp B.ok (i_v (i := 0) (by rfl) (by first | exact .inl rfl | exact .inr (.inl rfl) | exact .inr (.inr rfl))) (i_v (i := 2) (by rfl) (by first | exact .inl rfl | exact .inr (.inl rfl) | exact .inr (.inr rfl))))))) ss_nil))
theorem ok_is_name (Z : Zs K mg) (B : BodyOk (BodyX P w K mg base ["value", "sign"] "is_name" (defScope (top 14)) f cdv A outer s H) Ds 1000000 k) :
    PSs (BodyX P w K mg base ["value", "sign"] "is_name" (defScope (top 14)) f cdv A outer s H) (defBody (top 14)) (tSs K (run (Fns Ds) 1000000 k) 1000000 b_is_name) :=
  (ss_cons (s_if (t_w (w_or (t_not (t_e (i_is1 (by rfl) Z.f_isinstance (i_v (i := 0) (by rfl) (by first | exact .inl rfl | exact .inr (.inl rfl) | exact .inr (.inr rfl))) (ty_ok (t := .str) (by rfl) Z.f_str boot_str)))) (w_or (t_not (t_chain B.ok i_int (i_biB B.ok (b := .len) rfl (by rfl) Z.f_len boot_len (a_cons (i_v (i := 0) (by rfl) (by first | exact .inl rfl | exact .inr (.inl rfl) | exact .inr (.inr rfl))) a_nil)) (i_g (by rfl) Z.g_MOST_NAME))) (w_or (t_cmp B.ok (i_v (i := 0) (by rfl) (by first | exact .inl rfl | exact .inr (.inl rfl) | exact .inr (.inr rfl))) (i_g (by rfl) Z.g_WORDS)) (w_or1 (t_cmp B.ok (i_ix (i_v (i := 0) (by rfl) (by first | exact .inl rfl | exact .inr (.inl rfl) | exact .inr (.inr rfl))) i_int) (i_g (by rfl) Z.g_LETTERS))))))) (ss_cons (s_ret i_bl) ss_nil) ss_nil) (ss_cons (s_ret (i_biB B.ok (b := .all) rfl (by rfl) Z.f_all boot_all (a_cons (i_comp B.ok rfl (it_e (i_v (i := 0) (by rfl) (by first | exact .inl rfl | exact .inr (.inl rfl) | exact .inr (.inr rfl)))) (blkOk_by (N := ["value", "sign"]) (sc := (defScope (top 14))) (own := [("sign", 1)]) (by decide +kernel)) (fun _ _ _ _ _ => (g_n (i := 1) (cok_blk B.ok) rfl (by first | exact .inl rfl | exact .inr rfl) (by first | exact .inl rfl | exact .inr rfl))) (fun _ _ _ _ _ => (i_cmp (cok_blk B.ok) (i_v (i := 1) (by rfl) (by first | exact .inl rfl | exact .inr (.inl rfl) | exact .inr (.inr rfl))) (i_op (i_g (by rfl) Z.g_LETTERS) (i_g (by rfl) Z.g_DIGITS))))) a_nil))) ss_nil))
theorem ok_need_name (Z : Zs K mg) (B : BodyOk (BodyX P w K mg base ["value"] "need_name" (defScope (top 15)) f cdv A outer s H) Ds 1000000 k) :
    PSs (BodyX P w K mg base ["value"] "need_name" (defScope (top 15)) f cdv A outer s H) (defBody (top 15)) (tSs K (run (Fns Ds) 1000000 k) 1000000 b_need_name) :=
  (ss_cons (s_if (t_not (t_e (i_call B.ok (by rfl) (B.call 2 d_is_name rfl rfl) (a_cons (i_v (i := 0) (by rfl) (by first | exact .inl rfl | exact .inr (.inl rfl) | exact .inr (.inr rfl))) a_nil)))) (ss_cons s_never ss_nil) ss_nil) ss_nil)
theorem ok_as_tuples (Z : Zs K mg) (B : BodyOk (BodyX P w K mg base ["value", "part"] "as_tuples" (defScope (top 16)) f cdv A outer s H) Ds 1000000 k) :
    PSs (BodyX P w K mg base ["value", "part"] "as_tuples" (defScope (top 16)) f cdv A outer s H) (defBody (top 16)) (tSs K (run (Fns Ds) 1000000 k) 1000000 b_as_tuples) :=
  (ss_cons (s_ret (i_ite (t_e (i_isT (by decide) (by rfl) Z.f_isinstance (i_v (i := 0) (by rfl) (by first | exact .inl rfl | exact .inr (.inl rfl) | exact .inr (.inr rfl))) (tys_cons (ty_ok (t := .list) (by rfl) Z.f_list boot_list) (tys_cons (ty_ok (t := .tuple) (by rfl) Z.f_tuple boot_tuple) tys_nil)))) (i_biT B.ok (b := .tuple) rfl (by rfl) Z.f_tuple boot_tuple (a_cons (i_comp B.ok rfl (it_e (i_v (i := 0) (by rfl) (by first | exact .inl rfl | exact .inr (.inl rfl) | exact .inr (.inr rfl)))) (blkOk_by (N := ["value", "part"]) (sc := (defScope (top 16))) (own := [("part", 1)]) (by decide +kernel)) (fun _ _ _ _ _ => (g_n (i := 1) (cok_blk B.ok) rfl (by first | exact .inl rfl | exact .inr rfl) (by first | exact .inl rfl | exact .inr rfl))) (fun _ _ _ _ _ => (i_call (cok_blk B.ok) (by rfl) (call_blk (B.call 4 d_as_tuples rfl rfl)) (a_cons (i_v (i := 1) (by rfl) (by first | exact .inl rfl | exact .inr (.inl rfl) | exact .inr (.inr rfl))) a_nil)))) a_nil)) (i_v (i := 0) (by rfl) (by first | exact .inl rfl | exact .inr (.inl rfl) | exact .inr (.inr rfl))))) ss_nil)
theorem ok_Scan_init (Z : Zs K mg) (B : BodyOk (BodyX P w K mg base ["self", "text"] "Scan.__init__" (defScope (cst 18 0)) f cdv A outer s H) Ds 1000000 k) :
    PSs (BodyX P w K mg base ["self", "text"] "Scan.__init__" (defScope (cst 18 0)) f cdv A outer s H) (defBody (cst 18 0)) (tSs K (run (Fns Ds) 1000000 k) 1000000 b_Scan_init) :=
  (ss_cons (s_if (t_not (t_e (i_is1 (by rfl) Z.f_isinstance (i_v (i := 1) (by rfl) (by first | exact .inl rfl | exact .inr (.inl rfl) | exact .inr (.inr rfl))) (ty_ok (t := .str) (by rfl) Z.f_str boot_str)))) (ss_cons s_never ss_nil) ss_nil) (ss_cons (s_setf Z.c_Scan Z.n_Scan_items_left (i_v (i := 0) (by rfl) (by first | exact .inl rfl | exact .inr (.inl rfl) | exact .inr (.inr rfl))) (i_me mf_split (i_v (i := 1) (by rfl) (by first | exact .inl rfl | exact .inr (.inl rfl) | exact .inr (.inr rfl))) (a_cons i_str a_nil))) (ss_cons (s_setf Z.c_Scan Z.n_Scan_spot (i_v (i := 0) (by rfl) (by first | exact .inl rfl | exact .inr (.inl rfl) | exact .inr (.inr rfl))) i_int) ss_nil)))
theorem ok_Scan_is_over (Z : Zs K mg) (B : BodyOk (BodyX P w K mg base ["self"] "Scan.is_over" (defScope (cst 18 1)) f cdv A outer s H) Ds 1000000 k) :
    PSs (BodyX P w K mg base ["self"] "Scan.is_over" (defScope (cst 18 1)) f cdv A outer s H) (defBody (cst 18 1)) (tSs K (run (Fns Ds) 1000000 k) 1000000 b_Scan_is_over) :=
  (ss_cons (s_ret (i_cmp B.ok (i_fld Z.c_Scan Z.n_Scan_spot (i_v (i := 0) (by rfl) (by first | exact .inl rfl | exact .inr (.inl rfl) | exact .inr (.inr rfl)))) (i_biB B.ok (b := .len) rfl (by rfl) Z.f_len boot_len (a_cons (i_fld Z.c_Scan Z.n_Scan_items_left (i_v (i := 0) (by rfl) (by first | exact .inl rfl | exact .inr (.inl rfl) | exact .inr (.inr rfl)))) a_nil)))) ss_nil)
theorem ok_Scan_seen (Z : Zs K mg) (B : BodyOk (BodyX P w K mg base ["self"] "Scan.seen" (defScope (cst 18 2)) f cdv A outer s H) Ds 1000000 k) :
    PSs (BodyX P w K mg base ["self"] "Scan.seen" (defScope (cst 18 2)) f cdv A outer s H) (defBody (cst 18 2)) (tSs K (run (Fns Ds) 1000000 k) 1000000 b_Scan_seen) :=
  (ss_cons (s_ret (i_ite (t_e (i_mcall0 B.ok (B.meth 6 d_Scan_is_over _ rfl rfl (by decide)) (i_v (i := 0) (by rfl) (by first | exact .inl rfl | exact .inr (.inl rfl) | exact .inr (.inr rfl))))) i_non (i_ix (i_fld Z.c_Scan Z.n_Scan_items_left (i_v (i := 0) (by rfl) (by first | exact .inl rfl | exact .inr (.inl rfl) | exact .inr (.inr rfl)))) (i_fld Z.c_Scan Z.n_Scan_spot (i_v (i := 0) (by rfl) (by first | exact .inl rfl | exact .inr (.inl rfl) | exact .inr (.inr rfl))))))) ss_nil)
theorem ok_Scan_refuse (Z : Zs K mg) (B : BodyOk (BodyX P w K mg base ["self"] "Scan.refuse" (defScope (cst 18 3)) f cdv A outer s H) Ds 1000000 k) :
    PSs (BodyX P w K mg base ["self"] "Scan.refuse" (defScope (cst 18 3)) f cdv A outer s H) (defBody (cst 18 3)) (tSs K (run (Fns Ds) 1000000 k) 1000000 b_Scan_refuse) :=
  (ss_cons s_never ss_nil)
theorem ok_Scan_refuse_last (Z : Zs K mg) (B : BodyOk (BodyX P w K mg base ["self"] "Scan.refuse_last" (defScope (cst 18 4)) f cdv A outer s H) Ds 1000000 k) :
    PSs (BodyX P w K mg base ["self"] "Scan.refuse_last" (defScope (cst 18 4)) f cdv A outer s H) (defBody (cst 18 4)) (tSs K (run (Fns Ds) 1000000 k) 1000000 b_Scan_refuse_last) :=
  (ss_cons s_never ss_nil)
theorem ok_Scan_take (Z : Zs K mg) (B : BodyOk (BodyX P w K mg base ["self", "item"] "Scan.take" (defScope (cst 18 5)) f cdv A outer s H) Ds 1000000 k) :
    PSs (BodyX P w K mg base ["self", "item"] "Scan.take" (defScope (cst 18 5)) f cdv A outer s H) (defBody (cst 18 5)) (tSs K (run (Fns Ds) 1000000 k) 1000000 b_Scan_take) :=
  (ss_cons (s_set (i := 1) B.ok rfl (by first | exact .inl rfl | exact .inr rfl) (i_mcall0 B.ok (B.meth 7 d_Scan_seen _ rfl rfl (by decide)) (i_v (i := 0) (by rfl) (by first | exact .inl rfl | exact .inr (.inl rfl) | exact .inr (.inr rfl)))) rfl (by first | exact .inl rfl | exact .inr rfl)) (ss_cons (s_if (t_cmp B.ok (i_v (i := 1) (by rfl) (by first | exact .inl rfl | exact .inr (.inl rfl) | exact .inr (.inr rfl))) i_non) (ss_cons (s_ex (i_mcall0 B.ok (B.meth 8 d_Scan_refuse _ rfl rfl (by decide)) (i_v (i := 0) (by rfl) (by first | exact .inl rfl | exact .inr (.inl rfl) | exact .inr (.inr rfl))))) ss_nil) ss_nil) (ss_cons (s_setf Z.c_Scan Z.n_Scan_spot (i_v (i := 0) (by rfl) (by first | exact .inl rfl | exact .inr (.inl rfl) | exact .inr (.inr rfl))) (i_op (i_fld Z.c_Scan Z.n_Scan_spot (i_v (i := 0) (by rfl) (by first | exact .inl rfl | exact .inr (.inl rfl) | exact .inr (.inr rfl)))) i_int)) (ss_cons (s_ret (i_v (i := 1) (by rfl) (by first | exact .inl rfl | exact .inr (.inl rfl) | exact .inr (.inr rfl)))) ss_nil))))
theorem ok_Scan_finish (Z : Zs K mg) (B : BodyOk (BodyX P w K mg base ["self"] "Scan.finish" (defScope (cst 18 6)) f cdv A outer s H) Ds 1000000 k) :
    PSs (BodyX P w K mg base ["self"] "Scan.finish" (defScope (cst 18 6)) f cdv A outer s H) (defBody (cst 18 6)) (tSs K (run (Fns Ds) 1000000 k) 1000000 b_Scan_finish) :=
  (ss_cons (s_if (t_not (t_e (i_mcall0 B.ok (B.meth 6 d_Scan_is_over _ rfl rfl (by decide)) (i_v (i := 0) (by rfl) (by first | exact .inl rfl | exact .inr (.inl rfl) | exact .inr (.inr rfl)))))) (ss_cons (s_ex (i_mcall0 B.ok (B.meth 8 d_Scan_refuse _ rfl rfl (by decide)) (i_v (i := 0) (by rfl) (by first | exact .inl rfl | exact .inr (.inl rfl) | exact .inr (.inr rfl))))) ss_nil) ss_nil) ss_nil)
theorem ok_is_writing (Z : Zs K mg) (B : BodyOk (BodyX P w K mg base ["value"] "is_writing" (defScope (top 22)) f cdv A outer s H) Ds 1000000 k) :
    PSs (BodyX P w K mg base ["value"] "is_writing" (defScope (top 22)) f cdv A outer s H) (defBody (top 22)) (tSs K (run (Fns Ds) 1000000 k) 1000000 b_is_writing) :=
  (ss_cons (s_if (t_e (i_is1 (by rfl) Z.f_isinstance (i_v (i := 0) (by rfl) (by first | exact .inl rfl | exact .inr (.inl rfl) | exact .inr (.inr rfl))) (ty_ok (t := .str) (by rfl) Z.f_str boot_str))) (ss_cons (s_ret (i_call B.ok (by rfl) (B.call 2 d_is_name rfl rfl) (a_cons (i_v (i := 0) (by rfl) (by first | exact .inl rfl | exact .inr (.inl rfl) | exact .inr (.inr rfl))) a_nil))) ss_nil) ss_nil) (ss_cons (s_if (t_w (w_or (t_not (t_e (i_isT (by decide) (by rfl) Z.f_isinstance (i_v (i := 0) (by rfl) (by first | exact .inl rfl | exact .inr (.inl rfl) | exact .inr (.inr rfl))) (tys_cons (ty_ok (t := .list) (by rfl) Z.f_list boot_list) (tys_cons (ty_ok (t := .tuple) (by rfl) Z.f_tuple boot_tuple) tys_nil))))) (w_or (t_cmp B.ok (i_biB B.ok (b := .len) rfl (by rfl) Z.f_len boot_len (a_cons (i_v (i := 0) (by rfl) (by first | exact .inl rfl | exact .inr (.inl rfl) | exact .inr (.inr rfl))) a_nil)) i_int) (w_or1 (t_cmp B.ok (i_ix (i_v (i := 0) (by rfl) (by first | exact .inl rfl | exact .inr (.inl rfl) | exact .inr (.inr rfl))) i_int) (i_tup (a_cons (i_g (by rfl) Z.g_OF) (a_cons (i_g (by rfl) Z.g_TO) a_nil)))))))) (ss_cons (s_ret i_bl) ss_nil) ss_nil) (ss_cons (s_if (t_cmp B.ok (i_ix (i_v (i := 0) (by rfl) (by first | exact .inl rfl | exact .inr (.inl rfl) | exact .inr (.inr rfl))) i_int) (i_g (by rfl) Z.g_OF)) (ss_cons (s_ret (i_and (i_call B.ok (by rfl) (B.call 2 d_is_name rfl rfl) (a_cons (i_ix (i_v (i := 0) (by rfl) (by first | exact .inl rfl | exact .inr (.inl rfl) | exact .inr (.inr rfl))) i_int) a_nil)) (i_one (i_call B.ok (by rfl) (B.call 12 d_is_writing rfl rfl) (a_cons (i_ix (i_v (i := 0) (by rfl) (by first | exact .inl rfl | exact .inr (.inl rfl) | exact .inr (.inr rfl))) i_int) a_nil))))) ss_nil) ss_nil) (ss_cons (s_ret (i_and (i_call B.ok (by rfl) (B.call 12 d_is_writing rfl rfl) (a_cons (i_ix (i_v (i := 0) (by rfl) (by first | exact .inl rfl | exact .inr (.inl rfl) | exact .inr (.inr rfl))) i_int) a_nil)) (i_one (i_call B.ok (by rfl) (B.call 12 d_is_writing rfl rfl) (a_cons (i_ix (i_v (i := 0) (by rfl) (by first | exact .inl rfl | exact .inr (.inl rfl) | exact .inr (.inr rfl))) i_int) a_nil))))) ss_nil))))
theorem ok_need_writing (Z : Zs K mg) (B : BodyOk (BodyX P w K mg base ["value", "part"] "need_writing" (defScope (top 23)) f cdv A outer s H) Ds 1000000 k) :
    PSs (BodyX P w K mg base ["value", "part"] "need_writing" (defScope (top 23)) f cdv A outer s H) (defBody (top 23)) (tSs K (run (Fns Ds) 1000000 k) 1000000 b_need_writing) :=
  (ss_cons (s_if (t_not (t_e (i_call B.ok (by rfl) (B.call 12 d_is_writing rfl rfl) (a_cons (i_v (i := 0) (by rfl) (by first | exact .inl rfl | exact .inr (.inl rfl) | exact .inr (.inr rfl))) a_nil)))) (ss_cons s_never ss_nil) ss_nil) (ss_cons (s_ret (i_call B.ok (by rfl) (B.call 4 d_as_tuples rfl rfl) (a_cons (i_v (i := 0) (by rfl) (by first | exact .inl rfl | exact .inr (.inl rfl) | exact .inr (.inr rfl))) a_nil))) ss_nil))
theorem ok_signs_in (Z : Zs K mg) (B : BodyOk (BodyX P w K mg base ["writing"] "signs_in" (defScope (top 24)) f cdv A outer s H) Ds 1000000 k) :
    PSs (BodyX P w K mg base ["writing"] "signs_in" (defScope (top 24)) f cdv A outer s H) (defBody (top 24)) (tSs K (run (Fns Ds) 1000000 k) 1000000 b_signs_in) :=
  (ss_cons (s_if (t_e (i_is1 (by rfl) Z.f_isinstance (i_v (i := 0) (by rfl) (by first | exact .inl rfl | exact .inr (.inl rfl) | exact .inr (.inr rfl))) (ty_ok (t := .str) (by rfl) Z.f_str boot_str))) (ss_cons (s_ret i_int) ss_nil) ss_nil) (ss_cons (s_ret (i_op (i_op i_int (i_call B.ok (by rfl) (B.call 14 d_signs_in rfl rfl) (a_cons (i_ix (i_v (i := 0) (by rfl) (by first | exact .inl rfl | exact .inr (.inl rfl) | exact .inr (.inr rfl))) i_int) a_nil))) (i_ite (t_cmp B.ok (i_ix (i_v (i := 0) (by rfl) (by first | exact .inl rfl | exact .inr (.inl rfl) | exact .inr (.inr rfl))) i_int) (i_g (by rfl) Z.g_TO)) (i_call B.ok (by rfl) (B.call 14 d_signs_in rfl rfl) (a_cons (i_ix (i_v (i := 0) (by rfl) (by first | exact .inl rfl | exact .inr (.inl rfl) | exact .inr (.inr rfl))) i_int) a_nil)) i_int))) ss_nil))
theorem ok_layers_in (Z : Zs K mg) (B : BodyOk (BodyX P w K mg base ["writing"] "layers_in" (defScope (top 25)) f cdv A outer s H) Ds 1000000 k) :
    PSs (BodyX P w K mg base ["writing"] "layers_in" (defScope (top 25)) f cdv A outer s H) (defBody (top 25)) (tSs K (run (Fns Ds) 1000000 k) 1000000 b_layers_in) :=
  (ss_cons (s_if (t_e (i_is1 (by rfl) Z.f_isinstance (i_v (i := 0) (by rfl) (by first | exact .inl rfl | exact .inr (.inl rfl) | exact .inr (.inr rfl))) (ty_ok (t := .str) (by rfl) Z.f_str boot_str))) (ss_cons (s_ret i_int) ss_nil) ss_nil) (ss_cons (s_ret (i_op i_int (i_biB B.ok (b := .max2) rfl (by rfl) Z.f_max boot_max (a_cons (i_call B.ok (by rfl) (B.call 15 d_layers_in rfl rfl) (a_cons (i_ix (i_v (i := 0) (by rfl) (by first | exact .inl rfl | exact .inr (.inl rfl) | exact .inr (.inr rfl))) i_int) a_nil)) (a_cons (i_call B.ok (by rfl) (B.call 15 d_layers_in rfl rfl) (a_cons (i_ix (i_v (i := 0) (by rfl) (by first | exact .inl rfl | exact .inr (.inl rfl) | exact .inr (.inr rfl))) i_int) a_nil)) a_nil))))) ss_nil))
theorem ok_gather_free (Z : Zs K mg) (B : BodyOk (BodyX P w K mg base ["writing", "bound", "found"] "gather_free" (defScope (top 26)) f cdv A outer s H) Ds 1000000 k) :
    PSs (BodyX P w K mg base ["writing", "bound", "found"] "gather_free" (defScope (top 26)) f cdv A outer s H) (defBody (top 26)) (tSs K (run (Fns Ds) 1000000 k) 1000000 b_gather_free) :=
  (ss_cons (s_if (t_e (i_is1 (by rfl) Z.f_isinstance (i_v (i := 0) (by rfl) (by first | exact .inl rfl | exact .inr (.inl rfl) | exact .inr (.inr rfl))) (ty_ok (t := .str) (by rfl) Z.f_str boot_str))) (ss_cons (s_if (t_w (w_and (t_cmp B.ok (i_v (i := 0) (by rfl) (by first | exact .inl rfl | exact .inr (.inl rfl) | exact .inr (.inr rfl))) (i_v (i := 1) (by rfl) (by first | exact .inl rfl | exact .inr (.inl rfl) | exact .inr (.inr rfl)))) (w_and1 (t_cmp B.ok (i_v (i := 0) (by rfl) (by first | exact .inl rfl | exact .inr (.inl rfl) | exact .inr (.inr rfl))) (i_v (i := 2) (by rfl) (by first | exact .inl rfl | exact .inr (.inl rfl) | exact .inr (.inr rfl))))))) (ss_cons (s_ex (i_me mf_append (i_v (i := 2) (by rfl) (by first | exact .inl rfl | exact .inr (.inl rfl) | exact .inr (.inr rfl))) (a_cons (i_v (i := 0) (by rfl) (by first | exact .inl rfl | exact .inr (.inl rfl) | exact .inr (.inr rfl))) a_nil))) ss_nil) ss_nil) ss_nil) (ss_cons (s_if (t_cmp B.ok (i_ix (i_v (i := 0) (by rfl) (by first | exact .inl rfl | exact .inr (.inl rfl) | exact .inr (.inr rfl))) i_int) (i_g (by rfl) Z.g_OF)) (ss_cons (s_ex (i_call B.ok (by rfl) (B.call 16 d_gather_free rfl rfl) (a_cons (i_ix (i_v (i := 0) (by rfl) (by first | exact .inl rfl | exact .inr (.inl rfl) | exact .inr (.inr rfl))) i_int) (a_cons (i_lst (a_star (i_v (i := 1) (by rfl) (by first | exact .inl rfl | exact .inr (.inl rfl) | exact .inr (.inr rfl))) (a_cons (i_ix (i_v (i := 0) (by rfl) (by first | exact .inl rfl | exact .inr (.inl rfl) | exact .inr (.inr rfl))) i_int) a_nil))) (a_cons (i_v (i := 2) (by rfl) (by first | exact .inl rfl | exact .inr (.inl rfl) | exact .inr (.inr rfl))) a_nil))))) ss_nil) (ss_cons (s_ex (i_call B.ok (by rfl) (B.call 16 d_gather_free rfl rfl) (a_cons (i_ix (i_v (i := 0) (by rfl) (by first | exact .inl rfl | exact .inr (.inl rfl) | exact .inr (.inr rfl))) i_int) (a_cons (i_v (i := 1) (by rfl) (by first | exact .inl rfl | exact .inr (.inl rfl) | exact .inr (.inr rfl))) (a_cons (i_v (i := 2) (by rfl) (by first | exact .inl rfl | exact .inr (.inl rfl) | exact .inr (.inr rfl))) a_nil))))) (ss_cons (s_ex (i_call B.ok (by rfl) (B.call 16 d_gather_free rfl rfl) (a_cons (i_ix (i_v (i := 0) (by rfl) (by first | exact .inl rfl | exact .inr (.inl rfl) | exact .inr (.inr rfl))) i_int) (a_cons (i_v (i := 1) (by rfl) (by first | exact .inl rfl | exact .inr (.inl rfl) | exact .inr (.inr rfl))) (a_cons (i_v (i := 2) (by rfl) (by first | exact .inl rfl | exact .inr (.inl rfl) | exact .inr (.inr rfl))) a_nil))))) ss_nil))) ss_nil)) ss_nil)
theorem ok_free_in (Z : Zs K mg) (B : BodyOk (BodyX P w K mg base ["writing", "found"] "free_in" (defScope (top 27)) f cdv A outer s H) Ds 1000000 k) :
    PSs (BodyX P w K mg base ["writing", "found"] "free_in" (defScope (top 27)) f cdv A outer s H) (defBody (top 27)) (tSs K (run (Fns Ds) 1000000 k) 1000000 b_free_in) :=
  (ss_cons (s_set (i := 1) B.ok rfl (by first | exact .inl rfl | exact .inr rfl) (i_new a_nil) rfl (by first | exact .inl rfl | exact .inr rfl)) (ss_cons (s_ex (i_call B.ok (by rfl) (B.call 16 d_gather_free rfl rfl) (a_cons (i_v (i := 0) (by rfl) (by first | exact .inl rfl | exact .inr (.inl rfl) | exact .inr (.inr rfl))) (a_cons (i_lst a_nil) (a_cons (i_v (i := 1) (by rfl) (by first | exact .inl rfl | exact .inr (.inl rfl) | exact .inr (.inr rfl))) a_nil))))) (ss_cons (s_ret (i_frz (i := 1) (by rfl) (by first | exact .inl rfl | exact .inr (.inl rfl) | exact .inr (.inr rfl)))) ss_nil)))
theorem ok_names_in (Z : Zs K mg) (B : BodyOk (BodyX P w K mg base ["writing"] "names_in" (defScope (top 28)) f cdv A outer s H) Ds 1000000 k) :
    PSs (BodyX P w K mg base ["writing"] "names_in" (defScope (top 28)) f cdv A outer s H) (defBody (top 28)) (tSs K (run (Fns Ds) 1000000 k) 1000000 b_names_in) :=
  (ss_cons (s_if (t_e (i_is1 (by rfl) Z.f_isinstance (i_v (i := 0) (by rfl) (by first | exact .inl rfl | exact .inr (.inl rfl) | exact .inr (.inr rfl))) (ty_ok (t := .str) (by rfl) Z.f_str boot_str))) (ss_cons (s_ret (i_lst (a_cons (i_v (i := 0) (by rfl) (by first | exact .inl rfl | exact .inr (.inl rfl) | exact .inr (.inr rfl))) a_nil))) ss_nil) ss_nil) (ss_cons (s_ret (i_lst (a_star (i_call B.ok (by rfl) (B.call 18 d_names_in rfl rfl) (a_cons (i_ix (i_v (i := 0) (by rfl) (by first | exact .inl rfl | exact .inr (.inl rfl) | exact .inr (.inr rfl))) i_int) a_nil)) (a_star (i_call B.ok (by rfl) (B.call 18 d_names_in rfl rfl) (a_cons (i_ix (i_v (i := 0) (by rfl) (by first | exact .inl rfl | exact .inr (.inl rfl) | exact .inr (.inr rfl))) i_int) a_nil)) a_nil)))) ss_nil))
theorem ok_fresh_name (Z : Zs K mg) (B : BodyOk (BodyX P w K mg base ["name", "taken", "fresh", "number", "each"] "fresh_name" (defScope (top 29)) f cdv A outer s H) Ds 1000000 k) :
    PSs (BodyX P w K mg base ["name", "taken", "fresh", "number", "each"] "fresh_name" (defScope (top 29)) f cdv A outer s H) (defBody (top 29)) (tSs K (run (Fns Ds) 1000000 k) 1000000 b_fresh_name) :=
  (ss_cons (s_setLc (i := 2) B.ok rfl rfl (sw_true rfl rfl rfl (by decide +kernel)) rfl (it_rng1 (by rfl) Z.f_range (i_op (i_biB B.ok (b := .len) rfl (by rfl) Z.f_len boot_len (a_cons (i_v (i := 1) (by rfl) (by first | exact .inl rfl | exact .inr (.inl rfl) | exact .inr (.inr rfl))) a_nil)) i_int)) (blkOk_by (N := ["name", "taken", "fresh", "number", "each"]) (sc := (defScope (top 29))) (own := [("number", 3)]) (by decide +kernel)) (fun _ _ _ _ _ => (g_n (i := 3) (cok_blk B.ok) rfl (by first | exact .inl rfl | exact .inr rfl) (by first | exact .inl rfl | exact .inr rfl))) (fun _ _ _ _ _ => (i_js (.cons (i_fmt (i_ix (i_v (i := 0) (by rfl) (by first | exact .inl rfl | exact .inr (.inl rfl) | exact .inr (.inr rfl))) i_int)) (.cons (i_fmt (i_v (i := 3) (by rfl) (by first | exact .inl rfl | exact .inr (.inl rfl) | exact .inr (.inr rfl)))) .nil))))) (ss_cons (s_ret (i_ix (i_compI B.ok rfl (it_e (i_v (i := 2) (by rfl) (by first | exact .inl rfl | exact .inr (.inl rfl) | exact .inr (.inr rfl)))) (blkOk_by (N := ["name", "taken", "fresh", "number", "each"]) (sc := (defScope (top 29))) (own := [("each", 4)]) (by decide +kernel)) (fun _ _ _ _ _ => (g_n (i := 4) (cok_blk B.ok) rfl (by first | exact .inl rfl | exact .inr rfl) (by first | exact .inl rfl | exact .inr rfl))) (fun _ _ _ _ _ => (t_cmp (cok_blk B.ok) (i_v (i := 4) (by rfl) (by first | exact .inl rfl | exact .inr (.inl rfl) | exact .inr (.inr rfl))) (i_v (i := 1) (by rfl) (by first | exact .inl rfl | exact .inr (.inl rfl) | exact .inr (.inr rfl))))) (fun _ _ _ _ _ => (i_v (i := 4) (by rfl) (by first | exact .inl rfl | exact .inr (.inl rfl) | exact .inr (.inr rfl))))) i_int)) ss_nil))
theorem ok_put_in (Z : Zs K mg) (B : BodyOk (BodyX P w K mg base ["writing", "name", "other", "shut", "own", "body", "fresh"] "put_in" (defScope (top 30)) f cdv A outer s H) Ds 1000000 k) :
    PSs (BodyX P w K mg base ["writing", "name", "other", "shut", "own", "body", "fresh"] "put_in" (defScope (top 30)) f cdv A outer s H) (defBody (top 30)) (tSs K (run (Fns Ds) 1000000 k) 1000000 b_put_in) :=
  (ss_cons (s_if (t_e (i_is1 (by rfl) Z.f_isinstance (i_v (i := 0) (by rfl) (by first | exact .inl rfl | exact .inr (.inl rfl) | exact .inr (.inr rfl))) (ty_ok (t := .str) (by rfl) Z.f_str boot_str))) (ss_cons (s_ret (i_ite (t_cmp B.ok (i_v (i := 0) (by rfl) (by first | exact .inl rfl | exact .inr (.inl rfl) | exact .inr (.inr rfl))) (i_v (i := 1) (by rfl) (by first | exact .inl rfl | exact .inr (.inl rfl) | exact .inr (.inr rfl)))) (i_v (i := 2) (by rfl) (by first | exact .inl rfl | exact .inr (.inl rfl) | exact .inr (.inr rfl))) (i_v (i := 0) (by rfl) (by first | exact .inl rfl | exact .inr (.inl rfl) | exact .inr (.inr rfl))))) ss_nil) ss_nil) (ss_cons (s_if (t_cmp B.ok (i_ix (i_v (i := 0) (by rfl) (by first | exact .inl rfl | exact .inr (.inl rfl) | exact .inr (.inr rfl))) i_int) (i_g (by rfl) Z.g_TO)) (ss_cons (s_ret (i_tup (a_cons (i_g (by rfl) Z.g_TO) (a_cons (i_call B.ok (by rfl) (B.call 20 d_put_in rfl rfl) (a_cons (i_ix (i_v (i := 0) (by rfl) (by first | exact .inl rfl | exact .inr (.inl rfl) | exact .inr (.inr rfl))) i_int) (a_cons (i_v (i := 1) (by rfl) (by first | exact .inl rfl | exact .inr (.inl rfl) | exact .inr (.inr rfl))) (a_cons (i_v (i := 2) (by rfl) (by first | exact .inl rfl | exact .inr (.inl rfl) | exact .inr (.inr rfl))) (a_cons (i_v (i := 3) (by rfl) (by first | exact .inl rfl | exact .inr (.inl rfl) | exact .inr (.inr rfl))) a_nil))))) (a_cons (i_call B.ok (by rfl) (B.call 20 d_put_in rfl rfl) (a_cons (i_ix (i_v (i := 0) (by rfl) (by first | exact .inl rfl | exact .inr (.inl rfl) | exact .inr (.inr rfl))) i_int) (a_cons (i_v (i := 1) (by rfl) (by first | exact .inl rfl | exact .inr (.inl rfl) | exact .inr (.inr rfl))) (a_cons (i_v (i := 2) (by rfl) (by first | exact .inl rfl | exact .inr (.inl rfl) | exact .inr (.inr rfl))) (a_cons (i_v (i := 3) (by rfl) (by first | exact .inl rfl | exact .inr (.inl rfl) | exact .inr (.inr rfl))) a_nil))))) a_nil))))) ss_nil) ss_nil) (ss_cons (s_par2 (i := 4) (j := 5) B.ok rfl rfl (by decide) rfl rfl (a_cons (i_ix (i_v (i := 0) (by rfl) (by first | exact .inl rfl | exact .inr (.inl rfl) | exact .inr (.inr rfl))) i_int) (a_cons (i_ix (i_v (i := 0) (by rfl) (by first | exact .inl rfl | exact .inr (.inl rfl) | exact .inr (.inr rfl))) i_int) a_nil)) rfl) (ss_cons (s_if (t_cmp B.ok (i_v (i := 4) (by rfl) (by first | exact .inl rfl | exact .inr (.inl rfl) | exact .inr (.inr rfl))) (i_v (i := 1) (by rfl) (by first | exact .inl rfl | exact .inr (.inl rfl) | exact .inr (.inr rfl)))) (ss_cons (s_ret (i_v (i := 0) (by rfl) (by first | exact .inl rfl | exact .inr (.inl rfl) | exact .inr (.inr rfl)))) ss_nil) ss_nil) (ss_cons (s_if (t_w (w_and (t_cmp B.ok (i_v (i := 4) (by rfl) (by first | exact .inl rfl | exact .inr (.inl rfl) | exact .inr (.inr rfl))) (i_v (i := 3) (by rfl) (by first | exact .inl rfl | exact .inr (.inl rfl) | exact .inr (.inr rfl)))) (w_and1 (t_cmp B.ok (i_v (i := 1) (by rfl) (by first | exact .inl rfl | exact .inr (.inl rfl) | exact .inr (.inr rfl))) (i_call B.ok (by rfl) (B.call 17 d_free_in rfl rfl) (a_cons (i_v (i := 5) (by rfl) (by first | exact .inl rfl | exact .inr (.inl rfl) | exact .inr (.inr rfl))) a_nil)))))) (ss_cons (s_set (i := 6) B.ok rfl (by first | exact .inl rfl | exact .inr rfl) (i_call B.ok (by rfl) (B.call 19 d_fresh_name rfl rfl) (a_cons (i_v (i := 4) (by rfl) (by first | exact .inl rfl | exact .inr (.inl rfl) | exact .inr (.inr rfl))) (a_cons (i_lst (a_cons (i_v (i := 1) (by rfl) (by first | exact .inl rfl | exact .inr (.inl rfl) | exact .inr (.inr rfl))) (a_star (i_v (i := 3) (by rfl) (by first | exact .inl rfl | exact .inr (.inl rfl) | exact .inr (.inr rfl))) (a_star (i_call B.ok (by rfl) (B.call 18 d_names_in rfl rfl) (a_cons (i_v (i := 5) (by rfl) (by first | exact .inl rfl | exact .inr (.inl rfl) | exact .inr (.inr rfl))) a_nil)) a_nil)))) a_nil))) rfl (by first | exact .inl rfl | exact .inr rfl)) (ss_cons (s_par2 (i := 4) (j := 5) B.ok rfl rfl (by decide) rfl rfl (a_cons (i_v (i := 6) (by rfl) (by first | exact .inl rfl | exact .inr (.inl rfl) | exact .inr (.inr rfl))) (a_cons (i_call B.ok (by rfl) (B.call 20 d_put_in rfl rfl) (a_cons (i_v (i := 5) (by rfl) (by first | exact .inl rfl | exact .inr (.inl rfl) | exact .inr (.inr rfl))) (a_cons (i_v (i := 4) (by rfl) (by first | exact .inl rfl | exact .inr (.inl rfl) | exact .inr (.inr rfl))) (a_cons (i_v (i := 6) (by rfl) (by first | exact .inl rfl | exact .inr (.inl rfl) | exact .inr (.inr rfl))) (a_cons (i_lst (a_cons (i_v (i := 6) (by rfl) (by first | exact .inl rfl | exact .inr (.inl rfl) | exact .inr (.inr rfl))) a_nil)) a_nil))))) a_nil)) rfl) ss_nil)) ss_nil) (ss_cons (s_ret (i_tup (a_cons (i_g (by rfl) Z.g_OF) (a_cons (i_v (i := 4) (by rfl) (by first | exact .inl rfl | exact .inr (.inl rfl) | exact .inr (.inr rfl))) (a_cons (i_call B.ok (by rfl) (B.call 20 d_put_in rfl rfl) (a_cons (i_v (i := 5) (by rfl) (by first | exact .inl rfl | exact .inr (.inl rfl) | exact .inr (.inr rfl))) (a_cons (i_v (i := 1) (by rfl) (by first | exact .inl rfl | exact .inr (.inl rfl) | exact .inr (.inr rfl))) (a_cons (i_v (i := 2) (by rfl) (by first | exact .inl rfl | exact .inr (.inl rfl) | exact .inr (.inr rfl))) (a_cons (i_v (i := 3) (by rfl) (by first | exact .inl rfl | exact .inr (.inl rfl) | exact .inr (.inr rfl))) a_nil))))) a_nil))))) ss_nil))))))
theorem ok_put_for (Z : Zs K mg) (B : BodyOk (BodyX P w K mg base ["writing", "name", "other"] "put_for" (defScope (top 31)) f cdv A outer s H) Ds 1000000 k) :
    PSs (BodyX P w K mg base ["writing", "name", "other"] "put_for" (defScope (top 31)) f cdv A outer s H) (defBody (top 31)) (tSs K (run (Fns Ds) 1000000 k) 1000000 b_put_for) :=
  (ss_cons (s_ret (i_call B.ok (by rfl) (B.call 20 d_put_in rfl rfl) (a_cons (i_v (i := 0) (by rfl) (by first | exact .inl rfl | exact .inr (.inl rfl) | exact .inr (.inr rfl))) (a_cons (i_v (i := 1) (by rfl) (by first | exact .inl rfl | exact .inr (.inl rfl) | exact .inr (.inr rfl))) (a_cons (i_v (i := 2) (by rfl) (by first | exact .inl rfl | exact .inr (.inl rfl) | exact .inr (.inr rfl))) (a_cons (i_call B.ok (by rfl) (B.call 17 d_free_in rfl rfl) (a_cons (i_v (i := 2) (by rfl) (by first | exact .inl rfl | exact .inr (.inl rfl) | exact .inr (.inr rfl))) a_nil)) a_nil)))))) ss_nil)
theorem ok_take_writing (Z : Zs K mg) (B : BodyOk (BodyX P w K mg base ["scan", "item", "name"] "take_writing" (defScope (top 32)) f cdv A outer s H) Ds 1000000 k) :
    PSs (BodyX P w K mg base ["scan", "item", "name"] "take_writing" (defScope (top 32)) f cdv A outer s H) (defBody (top 32)) (tSs K (run (Fns Ds) 1000000 k) 1000000 b_take_writing) :=
  (ss_cons (s_set (i := 1) B.ok rfl (by first | exact .inl rfl | exact .inr rfl) (i_mcall0 B.ok (B.meth 10 d_Scan_take _ rfl rfl (by decide)) (i_v (i := 0) (by rfl) (by first | exact .inl rfl | exact .inr (.inl rfl) | exact .inr (.inr rfl)))) rfl (by first | exact .inl rfl | exact .inr rfl)) (ss_cons (s_if (t_cmp B.ok (i_v (i := 1) (by rfl) (by first | exact .inl rfl | exact .inr (.inl rfl) | exact .inr (.inr rfl))) (i_g (by rfl) Z.g_OF)) (ss_cons (s_set (i := 2) B.ok rfl (by first | exact .inl rfl | exact .inr rfl) (i_mcall0 B.ok (B.meth 10 d_Scan_take _ rfl rfl (by decide)) (i_v (i := 0) (by rfl) (by first | exact .inl rfl | exact .inr (.inl rfl) | exact .inr (.inr rfl)))) rfl (by first | exact .inl rfl | exact .inr rfl)) (ss_cons (s_if (t_not (t_e (i_call B.ok (by rfl) (B.call 2 d_is_name rfl rfl) (a_cons (i_v (i := 2) (by rfl) (by first | exact .inl rfl | exact .inr (.inl rfl) | exact .inr (.inr rfl))) a_nil)))) (ss_cons (s_ex (i_mcall0 B.ok (B.meth 9 d_Scan_refuse_last _ rfl rfl (by decide)) (i_v (i := 0) (by rfl) (by first | exact .inl rfl | exact .inr (.inl rfl) | exact .inr (.inr rfl))))) ss_nil) ss_nil) (ss_cons (s_ret (i_tup (a_cons (i_g (by rfl) Z.g_OF) (a_cons (i_v (i := 2) (by rfl) (by first | exact .inl rfl | exact .inr (.inl rfl) | exact .inr (.inr rfl))) (a_cons (i_call B.ok (by rfl) (B.call 22 d_take_writing rfl rfl) (a_cons (i_v (i := 0) (by rfl) (by first | exact .inl rfl | exact .inr (.inl rfl) | exact .inr (.inr rfl))) a_nil)) a_nil))))) ss_nil))) ss_nil) (ss_cons (s_if (t_cmp B.ok (i_v (i := 1) (by rfl) (by first | exact .inl rfl | exact .inr (.inl rfl) | exact .inr (.inr rfl))) (i_g (by rfl) Z.g_TO)) (ss_cons (s_ret (i_tup (a_cons (i_g (by rfl) Z.g_TO) (a_cons (i_call B.ok (by rfl) (B.call 22 d_take_writing rfl rfl) (a_cons (i_v (i := 0) (by rfl) (by first | exact .inl rfl | exact .inr (.inl rfl) | exact .inr (.inr rfl))) a_nil)) (a_cons (i_call B.ok (by rfl) (B.call 22 d_take_writing rfl rfl) (a_cons (i_v (i := 0) (by rfl) (by first | exact .inl rfl | exact .inr (.inl rfl) | exact .inr (.inr rfl))) a_nil)) a_nil))))) ss_nil) ss_nil) (ss_cons (s_if (t_not (t_e (i_call B.ok (by rfl) (B.call 2 d_is_name rfl rfl) (a_cons (i_v (i := 1) (by rfl) (by first | exact .inl rfl | exact .inr (.inl rfl) | exact .inr (.inr rfl))) a_nil)))) (ss_cons (s_ex (i_mcall0 B.ok (B.meth 9 d_Scan_refuse_last _ rfl rfl (by decide)) (i_v (i := 0) (by rfl) (by first | exact .inl rfl | exact .inr (.inl rfl) | exact .inr (.inr rfl))))) ss_nil) ss_nil) (ss_cons (s_ret (i_v (i := 1) (by rfl) (by first | exact .inl rfl | exact .inr (.inl rfl) | exact .inr (.inr rfl)))) ss_nil)))))
theorem ok_items_of (Z : Zs K mg) (B : BodyOk (BodyX P w K mg base ["writing"] "items_of" (defScope (top 33)) f cdv A outer s H) Ds 1000000 k) :
    PSs (BodyX P w K mg base ["writing"] "items_of" (defScope (top 33)) f cdv A outer s H) (defBody (top 33)) (tSs K (run (Fns Ds) 1000000 k) 1000000 b_items_of) :=
  (ss_cons (s_if (t_e (i_is1 (by rfl) Z.f_isinstance (i_v (i := 0) (by rfl) (by first | exact .inl rfl | exact .inr (.inl rfl) | exact .inr (.inr rfl))) (ty_ok (t := .str) (by rfl) Z.f_str boot_str))) (ss_cons (s_ret (i_lst (a_cons (i_v (i := 0) (by rfl) (by first | exact .inl rfl | exact .inr (.inl rfl) | exact .inr (.inr rfl))) a_nil))) ss_nil) ss_nil) (ss_cons (s_ret (i_lst (a_cons (i_ix (i_v (i := 0) (by rfl) (by first | exact .inl rfl | exact .inr (.inl rfl) | exact .inr (.inr rfl))) i_int) (a_star (i_call B.ok (by rfl) (B.call 23 d_items_of rfl rfl) (a_cons (i_ix (i_v (i := 0) (by rfl) (by first | exact .inl rfl | exact .inr (.inl rfl) | exact .inr (.inr rfl))) i_int) a_nil)) (a_star (i_call B.ok (by rfl) (B.call 23 d_items_of rfl rfl) (a_cons (i_ix (i_v (i := 0) (by rfl) (by first | exact .inl rfl | exact .inr (.inl rfl) | exact .inr (.inr rfl))) i_int) a_nil)) a_nil))))) ss_nil))
theorem ok_signs_of (Z : Zs K mg) (B : BodyOk (BodyX P w K mg base ["writing"] "signs_of" (defScope (top 34)) f cdv A outer s H) Ds 1000000 k) :
    PSs (BodyX P w K mg base ["writing"] "signs_of" (defScope (top 34)) f cdv A outer s H) (defBody (top 34)) (tSs K (run (Fns Ds) 1000000 k) 1000000 b_signs_of) :=
  (ss_cons (s_ret (i_call B.ok (by rfl) (B.call 14 d_signs_in rfl rfl) (a_cons (i_call B.ok (by rfl) (B.call 13 d_need_writing rfl rfl) (a_cons (i_v (i := 0) (by rfl) (by first | exact .inl rfl | exact .inr (.inl rfl) | exact .inr (.inr rfl))) (a_cons i_str a_nil))) a_nil))) ss_nil)
theorem ok_layers_of (Z : Zs K mg) (B : BodyOk (BodyX P w K mg base ["writing"] "layers_of" (defScope (top 35)) f cdv A outer s H) Ds 1000000 k) :
    PSs (BodyX P w K mg base ["writing"] "layers_of" (defScope (top 35)) f cdv A outer s H) (defBody (top 35)) (tSs K (run (Fns Ds) 1000000 k) 1000000 b_layers_of) :=
  (ss_cons (s_ret (i_call B.ok (by rfl) (B.call 15 d_layers_in rfl rfl) (a_cons (i_call B.ok (by rfl) (B.call 13 d_need_writing rfl rfl) (a_cons (i_v (i := 0) (by rfl) (by first | exact .inl rfl | exact .inr (.inl rfl) | exact .inr (.inr rfl))) (a_cons i_str a_nil))) a_nil))) ss_nil)
theorem ok_put (Z : Zs K mg) (B : BodyOk (BodyX P w K mg base ["writing", "name", "other", "told"] "put" (defScope (top 36)) f cdv A outer s H) Ds 1000000 k) :
    PSs (BodyX P w K mg base ["writing", "name", "other", "told"] "put" (defScope (top 36)) f cdv A outer s H) (defBody (top 36)) (tSs K (run (Fns Ds) 1000000 k) 1000000 b_put) :=
  (ss_cons (s_set (i := 3) B.ok rfl (by first | exact .inl rfl | exact .inr rfl) (i_call B.ok (by rfl) (B.call 13 d_need_writing rfl rfl) (a_cons (i_v (i := 0) (by rfl) (by first | exact .inl rfl | exact .inr (.inl rfl) | exact .inr (.inr rfl))) (a_cons i_str a_nil))) rfl (by first | exact .inl rfl | exact .inr rfl)) (ss_cons (s_ex (i_call B.ok (by rfl) (B.call 3 d_need_name rfl rfl) (a_cons (i_v (i := 1) (by rfl) (by first | exact .inl rfl | exact .inr (.inl rfl) | exact .inr (.inr rfl))) a_nil))) (ss_cons (s_ret (i_call B.ok (by rfl) (B.call 21 d_put_for rfl rfl) (a_cons (i_v (i := 3) (by rfl) (by first | exact .inl rfl | exact .inr (.inl rfl) | exact .inr (.inr rfl))) (a_cons (i_v (i := 1) (by rfl) (by first | exact .inl rfl | exact .inr (.inl rfl) | exact .inr (.inr rfl))) (a_cons (i_call B.ok (by rfl) (B.call 13 d_need_writing rfl rfl) (a_cons (i_v (i := 2) (by rfl) (by first | exact .inl rfl | exact .inr (.inl rfl) | exact .inr (.inr rfl))) (a_cons i_str a_nil))) a_nil))))) ss_nil)))
theorem ok_writing_text (Z : Zs K mg) (B : BodyOk (BodyX P w K mg base ["writing"] "writing_text" (defScope (top 37)) f cdv A outer s H) Ds 1000000 k) :
    PSs (BodyX P w K mg base ["writing"] "writing_text" (defScope (top 37)) f cdv A outer s H) (defBody (top 37)) (tSs K (run (Fns Ds) 1000000 k) 1000000 b_writing_text) :=
  (ss_cons (s_ret (i_me mf_join i_str (a_cons (i_call B.ok (by rfl) (B.call 23 d_items_of rfl rfl) (a_cons (i_call B.ok (by rfl) (B.call 13 d_need_writing rfl rfl) (a_cons (i_v (i := 0) (by rfl) (by first | exact .inl rfl | exact .inr (.inl rfl) | exact .inr (.inr rfl))) (a_cons i_str a_nil))) a_nil)) a_nil))) ss_nil)
theorem ok_read_writing (Z : Zs K mg) (B : BodyOk (BodyX P w K mg base ["text", "scan", "found"] "read_writing" (defScope (top 38)) f cdv A outer s H) Ds 1000000 k) :
    PSs (BodyX P w K mg base ["text", "scan", "found"] "read_writing" (defScope (top 38)) f cdv A outer s H) (defBody (top 38)) (tSs K (run (Fns Ds) 1000000 k) 1000000 b_read_writing) :=
  (ss_cons (s_set (i := 1) B.ok rfl (by first | exact .inl rfl | exact .inr rfl) (i_mko B.ok (by rfl) (B.make 5 d_Scan_init _ rfl rfl rfl) (a_cons (i_v (i := 0) (by rfl) (by first | exact .inl rfl | exact .inr (.inl rfl) | exact .inr (.inr rfl))) a_nil)) rfl (by first | exact .inl rfl | exact .inr rfl)) (ss_cons (s_set (i := 2) B.ok rfl (by first | exact .inl rfl | exact .inr rfl) (i_call B.ok (by rfl) (B.call 22 d_take_writing rfl rfl) (a_cons (i_v (i := 1) (by rfl) (by first | exact .inl rfl | exact .inr (.inl rfl) | exact .inr (.inr rfl))) a_nil)) rfl (by first | exact .inl rfl | exact .inr rfl)) (ss_cons (s_ex (i_mcall0 B.ok (B.meth 11 d_Scan_finish _ rfl rfl (by decide)) (i_v (i := 1) (by rfl) (by first | exact .inl rfl | exact .inr (.inl rfl) | exact .inr (.inr rfl))))) (ss_cons (s_ret (i_v (i := 2) (by rfl) (by first | exact .inl rfl | exact .inr (.inl rfl) | exact .inr (.inr rfl)))) ss_nil))))
theorem ok_places_in (Z : Zs K mg) (B : BodyOk (BodyX P w K mg base ["writing", "way"] "places_in" (defScope (top 40)) f cdv A outer s H) Ds 1000000 k) :
    PSs (BodyX P w K mg base ["writing", "way"] "places_in" (defScope (top 40)) f cdv A outer s H) (defBody (top 40)) (tSs K (run (Fns Ds) 1000000 k) 1000000 b_places_in) :=
  (ss_cons (s_if (t_e (i_is1 (by rfl) Z.f_isinstance (i_v (i := 0) (by rfl) (by first | exact .inl rfl | exact .inr (.inl rfl) | exact .inr (.inr rfl))) (ty_ok (t := .str) (by rfl) Z.f_str boot_str))) (ss_cons (s_ret (i_lst (a_cons (i_tup a_nil) a_nil))) ss_nil) ss_nil) (ss_cons (s_if (t_cmp B.ok (i_ix (i_v (i := 0) (by rfl) (by first | exact .inl rfl | exact .inr (.inl rfl) | exact .inr (.inr rfl))) i_int) (i_g (by rfl) Z.g_OF)) (ss_cons (s_ret (i_lst (a_cons (i_tup a_nil) (a_star (i_comp B.ok rfl (it_e (i_call B.ok (by rfl) (B.call 29 d_places_in rfl rfl) (a_cons (i_ix (i_v (i := 0) (by rfl) (by first | exact .inl rfl | exact .inr (.inl rfl) | exact .inr (.inr rfl))) i_int) a_nil))) (blkOk_by (N := ["writing", "way"]) (sc := (defScope (top 40))) (own := [("way", 1)]) (by decide +kernel)) (fun _ _ _ _ _ => (g_n (i := 1) (cok_blk B.ok) rfl (by first | exact .inl rfl | exact .inr rfl) (by first | exact .inl rfl | exact .inr rfl))) (fun _ _ _ _ _ => (i_tup (a_cons i_int (a_star (i_v (i := 1) (by rfl) (by first | exact .inl rfl | exact .inr (.inl rfl) | exact .inr (.inr rfl))) a_nil))))) a_nil)))) ss_nil) ss_nil) (ss_cons (s_ret (i_lst (a_cons (i_tup a_nil) (a_star (i_comp B.ok rfl (it_e (i_call B.ok (by rfl) (B.call 29 d_places_in rfl rfl) (a_cons (i_ix (i_v (i := 0) (by rfl) (by first | exact .inl rfl | exact .inr (.inl rfl) | exact .inr (.inr rfl))) i_int) a_nil))) (blkOk_by (N := ["writing", "way"]) (sc := (defScope (top 40))) (own := [("way", 1)]) (by decide +kernel)) (fun _ _ _ _ _ => (g_n (i := 1) (cok_blk B.ok) rfl (by first | exact .inl rfl | exact .inr rfl) (by first | exact .inl rfl | exact .inr rfl))) (fun _ _ _ _ _ => (i_tup (a_cons i_int (a_star (i_v (i := 1) (by rfl) (by first | exact .inl rfl | exact .inr (.inl rfl) | exact .inr (.inr rfl))) a_nil))))) (a_star (i_comp B.ok rfl (it_e (i_call B.ok (by rfl) (B.call 29 d_places_in rfl rfl) (a_cons (i_ix (i_v (i := 0) (by rfl) (by first | exact .inl rfl | exact .inr (.inl rfl) | exact .inr (.inr rfl))) i_int) a_nil))) (blkOk_by (N := ["writing", "way"]) (sc := (defScope (top 40))) (own := [("way", 1)]) (by decide +kernel)) (fun _ _ _ _ _ => (g_n (i := 1) (cok_blk B.ok) rfl (by first | exact .inl rfl | exact .inr rfl) (by first | exact .inl rfl | exact .inr rfl))) (fun _ _ _ _ _ => (i_tup (a_cons i_int (a_star (i_v (i := 1) (by rfl) (by first | exact .inl rfl | exact .inr (.inl rfl) | exact .inr (.inr rfl))) a_nil))))) a_nil))))) ss_nil)))
theorem ok_part_in (Z : Zs K mg) (B : BodyOk (BodyX P w K mg base ["writing", "place", "step"] "part_in" (defScope (top 41)) f cdv A outer s H) Ds 1000000 k) :
    PSs (BodyX P w K mg base ["writing", "place", "step"] "part_in" (defScope (top 41)) f cdv A outer s H) (defBody (top 41)) (tSs K (run (Fns Ds) 1000000 k) 1000000 b_part_in) :=
  (ss_cons (s_for B.ok PassesOwn.never (it_e (i_v (i := 1) (by rfl) (by first | exact .inl rfl | exact .inr (.inl rfl) | exact .inr (.inr rfl)))) (g_n (i := 2) B.ok rfl (by first | exact .inl rfl | exact .inr rfl) (by first | exact .inl rfl | exact .inr rfl)) (ss_cons (s_set (i := 0) B.ok rfl (by first | exact .inl rfl | exact .inr rfl) (i_ite (t_cmp B.ok (i_ix (i_v (i := 0) (by rfl) (by first | exact .inl rfl | exact .inr (.inl rfl) | exact .inr (.inr rfl))) i_int) (i_g (by rfl) Z.g_OF)) (i_ix (i_v (i := 0) (by rfl) (by first | exact .inl rfl | exact .inr (.inl rfl) | exact .inr (.inr rfl))) i_int) (i_ix (i_v (i := 0) (by rfl) (by first | exact .inl rfl | exact .inr (.inl rfl) | exact .inr (.inr rfl))) (i_op i_int (i_v (i := 2) (by rfl) (by first | exact .inl rfl | exact .inr (.inl rfl) | exact .inr (.inr rfl)))))) rfl (by first | exact .inl rfl | exact .inr rfl)) ss_nil)) (ss_cons (s_ret (i_v (i := 0) (by rfl) (by first | exact .inl rfl | exact .inr (.inl rfl) | exact .inr (.inr rfl)))) ss_nil))
theorem ok_is_place (Z : Zs K mg) (B : BodyOk (BodyX P w K mg base ["writing", "value", "step"] "is_place" (defScope (top 42)) f cdv A outer s H) Ds 1000000 k) :
    PSs (BodyX P w K mg base ["writing", "value", "step"] "is_place" (defScope (top 42)) f cdv A outer s H) (defBody (top 42)) (tSs K (run (Fns Ds) 1000000 k) 1000000 b_is_place) :=
  (ss_cons (s_if (t_not (t_e (i_isT (by decide) (by rfl) Z.f_isinstance (i_v (i := 1) (by rfl) (by first | exact .inl rfl | exact .inr (.inl rfl) | exact .inr (.inr rfl))) (tys_cons (ty_ok (t := .list) (by rfl) Z.f_list boot_list) (tys_cons (ty_ok (t := .tuple) (by rfl) Z.f_tuple boot_tuple) tys_nil))))) (ss_cons (s_ret i_bl) ss_nil) ss_nil) (ss_cons (s_for B.ok PassesOwn.never (it_e (i_v (i := 1) (by rfl) (by first | exact .inl rfl | exact .inr (.inl rfl) | exact .inr (.inr rfl)))) (g_n (i := 2) B.ok rfl (by first | exact .inl rfl | exact .inr rfl) (by first | exact .inl rfl | exact .inr rfl)) (ss_cons (s_if (t_w (w_or (t_e (i_is1 (by rfl) Z.f_isinstance (i_v (i := 0) (by rfl) (by first | exact .inl rfl | exact .inr (.inl rfl) | exact .inr (.inr rfl))) (ty_ok (t := .str) (by rfl) Z.f_str boot_str))) (w_or1 (t_not (t_e (i_call B.ok (by rfl) (B.call 1 d_is_within rfl rfl) (a_cons (i_v (i := 2) (by rfl) (by first | exact .inl rfl | exact .inr (.inl rfl) | exact .inr (.inr rfl))) (a_cons i_int (a_cons (i_ite (t_cmp B.ok (i_ix (i_v (i := 0) (by rfl) (by first | exact .inl rfl | exact .inr (.inl rfl) | exact .inr (.inr rfl))) i_int) (i_g (by rfl) Z.g_OF)) i_int i_int) a_nil))))))))) (ss_cons (s_ret i_bl) ss_nil) ss_nil) (ss_cons (s_set (i := 0) B.ok rfl (by first | exact .inl rfl | exact .inr rfl) (i_ite (t_cmp B.ok (i_ix (i_v (i := 0) (by rfl) (by first | exact .inl rfl | exact .inr (.inl rfl) | exact .inr (.inr rfl))) i_int) (i_g (by rfl) Z.g_OF)) (i_ix (i_v (i := 0) (by rfl) (by first | exact .inl rfl | exact .inr (.inl rfl) | exact .inr (.inr rfl))) i_int) (i_ix (i_v (i := 0) (by rfl) (by first | exact .inl rfl | exact .inr (.inl rfl) | exact .inr (.inr rfl))) (i_op i_int (i_v (i := 2) (by rfl) (by first | exact .inl rfl | exact .inr (.inl rfl) | exact .inr (.inr rfl)))))) rfl (by first | exact .inl rfl | exact .inr rfl)) ss_nil))) (ss_cons (s_ret i_bl) ss_nil)))
theorem ok_need_place (Z : Zs K mg) (B : BodyOk (BodyX P w K mg base ["writing", "value"] "need_place" (defScope (top 43)) f cdv A outer s H) Ds 1000000 k) :
    PSs (BodyX P w K mg base ["writing", "value"] "need_place" (defScope (top 43)) f cdv A outer s H) (defBody (top 43)) (tSs K (run (Fns Ds) 1000000 k) 1000000 b_need_place) :=
  (ss_cons (s_if (t_not (t_e (i_call B.ok (by rfl) (B.call 31 d_is_place rfl rfl) (a_cons (i_v (i := 0) (by rfl) (by first | exact .inl rfl | exact .inr (.inl rfl) | exact .inr (.inr rfl))) (a_cons (i_v (i := 1) (by rfl) (by first | exact .inl rfl | exact .inr (.inl rfl) | exact .inr (.inr rfl))) a_nil))))) (ss_cons s_never ss_nil) ss_nil) (ss_cons (s_ret (i_biT B.ok (b := .tuple) rfl (by rfl) Z.f_tuple boot_tuple (a_cons (i_v (i := 1) (by rfl) (by first | exact .inl rfl | exact .inr (.inl rfl) | exact .inr (.inr rfl))) a_nil))) ss_nil))
theorem ok_places_of (Z : Zs K mg) (B : BodyOk (BodyX P w K mg base ["writing"] "places_of" (defScope (top 44)) f cdv A outer s H) Ds 1000000 k) :
    PSs (BodyX P w K mg base ["writing"] "places_of" (defScope (top 44)) f cdv A outer s H) (defBody (top 44)) (tSs K (run (Fns Ds) 1000000 k) 1000000 b_places_of) :=
  (ss_cons (s_ret (i_biT B.ok (b := .tuple) rfl (by rfl) Z.f_tuple boot_tuple (a_cons (i_call B.ok (by rfl) (B.call 29 d_places_in rfl rfl) (a_cons (i_call B.ok (by rfl) (B.call 13 d_need_writing rfl rfl) (a_cons (i_v (i := 0) (by rfl) (by first | exact .inl rfl | exact .inr (.inl rfl) | exact .inr (.inr rfl))) (a_cons i_str a_nil))) a_nil)) a_nil))) ss_nil)
theorem ok_part_at (Z : Zs K mg) (B : BodyOk (BodyX P w K mg base ["writing", "place", "told"] "part_at" (defScope (top 45)) f cdv A outer s H) Ds 1000000 k) :
    PSs (BodyX P w K mg base ["writing", "place", "told"] "part_at" (defScope (top 45)) f cdv A outer s H) (defBody (top 45)) (tSs K (run (Fns Ds) 1000000 k) 1000000 b_part_at) :=
  (ss_cons (s_set (i := 2) B.ok rfl (by first | exact .inl rfl | exact .inr rfl) (i_call B.ok (by rfl) (B.call 13 d_need_writing rfl rfl) (a_cons (i_v (i := 0) (by rfl) (by first | exact .inl rfl | exact .inr (.inl rfl) | exact .inr (.inr rfl))) (a_cons i_str a_nil))) rfl (by first | exact .inl rfl | exact .inr rfl)) (ss_cons (s_ret (i_call B.ok (by rfl) (B.call 30 d_part_in rfl rfl) (a_cons (i_v (i := 2) (by rfl) (by first | exact .inl rfl | exact .inr (.inl rfl) | exact .inr (.inr rfl))) (a_cons (i_call B.ok (by rfl) (B.call 32 d_need_place rfl rfl) (a_cons (i_v (i := 2) (by rfl) (by first | exact .inl rfl | exact .inr (.inl rfl) | exact .inr (.inr rfl))) (a_cons (i_v (i := 1) (by rfl) (by first | exact .inl rfl | exact .inr (.inl rfl) | exact .inr (.inr rfl))) a_nil))) a_nil)))) ss_nil))
theorem ok__law_rack (Z : Zs K mg) (B : BodyOk (BodyX P w K mg base ["script", "cell"] "_law_rack" (defScope (top 47)) f cdv A outer s H) Ds 1000000 k) :
    PSs (BodyX P w K mg base ["script", "cell"] "_law_rack" (defScope (top 47)) f cdv A outer s H) (defBody (top 47)) (tSs K (run (Fns Ds) 1000000 k) 1000000 b__law_rack) :=
  (ss_cons (s_ret (i_new (a_cons (i_comp B.ok rfl (it_e (i_sl (i_v (i := 0) (by rfl) (by first | exact .inl rfl | exact .inr (.inl rfl) | exact .inr (.inr rfl))) o_none (o_some i_int))) (blkOk_by (N := ["script", "cell"]) (sc := (defScope (top 47))) (own := [("cell", 1)]) (by decide +kernel)) (fun _ _ _ _ _ => (g_n (i := 1) (cok_blk B.ok) rfl (by first | exact .inl rfl | exact .inr rfl) (by first | exact .inl rfl | exact .inr rfl))) (fun _ _ _ _ _ => (i_biT (cok_blk B.ok) (b := .int) rfl (by rfl) Z.f_int boot_int (a_cons (i_v (i := 1) (by rfl) (by first | exact .inl rfl | exact .inr (.inl rfl) | exact .inr (.inr rfl))) a_nil)))) (a_cons i_int (a_cons i_int a_nil))))) ss_nil)
theorem ok__law_take (Z : Zs K mg) (B : BodyOk (BodyX P w K mg base ["rack", "many", "turn", "cell", "mixed", "held"] "_law_take" (defScope (top 48)) f cdv A outer s H) Ds 1000000 k) :
    PSs (BodyX P w K mg base ["rack", "many", "turn", "cell", "mixed", "held"] "_law_take" (defScope (top 48)) f cdv A outer s H) (defBody (top 48)) (tSs K (run (Fns Ds) 1000000 k) 1000000 b__law_take) :=
  (ss_cons (s_if (t_cmp B.ok (i_ix (i_v (i := 0) (by rfl) (by first | exact .inl rfl | exact .inr (.inl rfl) | exact .inr (.inr rfl))) i_int) i_int) (ss_cons (s_set (i := 5) B.ok rfl (by first | exact .inl rfl | exact .inr rfl) (i_ix (i_v (i := 0) (by rfl) (by first | exact .inl rfl | exact .inr (.inl rfl) | exact .inr (.inr rfl))) i_int) rfl (by first | exact .inl rfl | exact .inr rfl)) (ss_cons (s_put (i_v (i := 0) (by rfl) (by first | exact .inl rfl | exact .inr (.inl rfl) | exact .inr (.inr rfl))) i_int (i_op (i_biT B.ok (b := .int) rfl (by rfl) Z.f_int boot_int (a_cons (i_v (i := 5) (by rfl) (by first | exact .inl rfl | exact .inr (.inl rfl) | exact .inr (.inr rfl))) a_nil)) (i_v (i := 1) (by rfl) (by first | exact .inl rfl | exact .inr (.inl rfl) | exact .inr (.inr rfl))))) (ss_cons (s_ret (i_op (i_biT B.ok (b := .int) rfl (by rfl) Z.f_int boot_int (a_cons (i_v (i := 5) (by rfl) (by first | exact .inl rfl | exact .inr (.inl rfl) | exact .inr (.inr rfl))) a_nil)) (i_v (i := 1) (by rfl) (by first | exact .inl rfl | exact .inr (.inl rfl) | exact .inr (.inr rfl))))) ss_nil))) ss_nil) (ss_cons (s_set (i := 2) B.ok rfl (by first | exact .inl rfl | exact .inr rfl) (i_ix (i_v (i := 0) (by rfl) (by first | exact .inl rfl | exact .inr (.inl rfl) | exact .inr (.inr rfl))) i_int) rfl (by first | exact .inl rfl | exact .inr rfl)) (ss_cons (s_put (i_v (i := 0) (by rfl) (by first | exact .inl rfl | exact .inr (.inl rfl) | exact .inr (.inr rfl))) i_int (i_op (i_v (i := 2) (by rfl) (by first | exact .inl rfl | exact .inr (.inl rfl) | exact .inr (.inr rfl))) i_int)) (ss_cons (s_set (i := 3) B.ok rfl (by first | exact .inl rfl | exact .inr rfl) (i_op (i_op i_int (i_v (i := 2) (by rfl) (by first | exact .inl rfl | exact .inr (.inl rfl) | exact .inr (.inr rfl)))) i_int) rfl (by first | exact .inl rfl | exact .inr rfl)) (ss_cons (s_if (t_cmp B.ok (i_ix (i_v (i := 0) (by rfl) (by first | exact .inl rfl | exact .inr (.inl rfl) | exact .inr (.inr rfl))) i_int) (i_lst a_nil)) (ss_cons (s_set (i := 3) B.ok rfl (by first | exact .inl rfl | exact .inr rfl) (i_ix (i_ix (i_v (i := 0) (by rfl) (by first | exact .inl rfl | exact .inr (.inl rfl) | exact .inr (.inr rfl))) i_int) (i_op (i_biT B.ok (b := .int) rfl (by rfl) Z.f_int boot_int (a_cons (i_v (i := 2) (by rfl) (by first | exact .inl rfl | exact .inr (.inl rfl) | exact .inr (.inr rfl))) a_nil)) (i_biB B.ok (b := .len) rfl (by rfl) Z.f_len boot_len (a_cons (i_ix (i_v (i := 0) (by rfl) (by first | exact .inl rfl | exact .inr (.inl rfl) | exact .inr (.inr rfl))) i_int) a_nil)))) rfl (by first | exact .inl rfl | exact .inr rfl)) ss_nil) ss_nil) (ss_cons (s_if (t_w (w_and (t_cmp B.ok (i_v (i := 2) (by rfl) (by first | exact .inl rfl | exact .inr (.inl rfl) | exact .inr (.inr rfl))) (i_biB B.ok (b := .len) rfl (by rfl) Z.f_len boot_len (a_cons (i_ix (i_v (i := 0) (by rfl) (by first | exact .inl rfl | exact .inr (.inl rfl) | exact .inr (.inr rfl))) i_int) a_nil))) (w_and1 (t_cmp B.ok (i_biB B.ok (b := .abs) rfl (by rfl) Z.f_abs boot_abs (a_cons (i_v (i := 3) (by rfl) (by first | exact .inl rfl | exact .inr (.inl rfl) | exact .inr (.inr rfl))) a_nil)) (i_op i_int i_int))))) (ss_cons (s_set (i := 5) B.ok rfl (by first | exact .inl rfl | exact .inr rfl) (i_op (i_op i_int (i_op (i_biB B.ok (b := .abs) rfl (by rfl) Z.f_abs boot_abs (a_cons (i_v (i := 3) (by rfl) (by first | exact .inl rfl | exact .inr (.inl rfl) | exact .inr (.inr rfl))) a_nil)) (i_op i_int i_int))) (i_biT B.ok (b := .int) rfl (by rfl) Z.f_int boot_int (a_cons (i_cmp B.ok (i_v (i := 3) (by rfl) (by first | exact .inl rfl | exact .inr (.inl rfl) | exact .inr (.inr rfl))) i_int) a_nil))) rfl (by first | exact .inl rfl | exact .inr rfl)) (ss_cons (s_put (i_v (i := 0) (by rfl) (by first | exact .inl rfl | exact .inr (.inl rfl) | exact .inr (.inr rfl))) i_int (i_op (i_biT B.ok (b := .int) rfl (by rfl) Z.f_int boot_int (a_cons (i_v (i := 5) (by rfl) (by first | exact .inl rfl | exact .inr (.inl rfl) | exact .inr (.inr rfl))) a_nil)) (i_v (i := 1) (by rfl) (by first | exact .inl rfl | exact .inr (.inl rfl) | exact .inr (.inr rfl))))) (ss_cons (s_ret (i_op (i_biT B.ok (b := .int) rfl (by rfl) Z.f_int boot_int (a_cons (i_v (i := 5) (by rfl) (by first | exact .inl rfl | exact .inr (.inl rfl) | exact .inr (.inr rfl))) a_nil)) (i_v (i := 1) (by rfl) (by first | exact .inl rfl | exact .inr (.inl rfl) | exact .inr (.inr rfl))))) ss_nil))) ss_nil) (ss_cons (s_set (i := 4) B.ok rfl (by first | exact .inl rfl | exact .inr rfl) (i_op (i_biT B.ok (b := .int) rfl (by rfl) Z.f_int boot_int (a_cons (i_op (i_op (i_op (i_op (i_biT B.ok (b := .int) rfl (by rfl) Z.f_int boot_int (a_cons (i_v (i := 3) (by rfl) (by first | exact .inl rfl | exact .inr (.inl rfl) | exact .inr (.inr rfl))) a_nil)) i_int) (i_op i_int (i_v (i := 2) (by rfl) (by first | exact .inl rfl | exact .inr (.inl rfl) | exact .inr (.inr rfl))))) i_int) i_int) a_nil)) i_int) rfl (by first | exact .inl rfl | exact .inr rfl)) (ss_cons (s_set (i := 4) B.ok rfl (by first | exact .inl rfl | exact .inr rfl) (i_op (i_biT B.ok (b := .int) rfl (by rfl) Z.f_int boot_int (a_cons (i_op (i_op (i_op (i_op (i_v (i := 4) (by rfl) (by first | exact .inl rfl | exact .inr (.inl rfl) | exact .inr (.inr rfl))) (i_op (i_op i_int (i_v (i := 2) (by rfl) (by first | exact .inl rfl | exact .inr (.inl rfl) | exact .inr (.inr rfl)))) i_int)) (i_op (i_op i_int (i_v (i := 2) (by rfl) (by first | exact .inl rfl | exact .inr (.inl rfl) | exact .inr (.inr rfl)))) (i_v (i := 2) (by rfl) (by first | exact .inl rfl | exact .inr (.inl rfl) | exact .inr (.inr rfl))))) i_int) i_int) a_nil)) i_int) rfl (by first | exact .inl rfl | exact .inr rfl)) (ss_cons (s_ret (i_op (i_biT B.ok (b := .int) rfl (by rfl) Z.f_int boot_int (a_cons (i_op (i_v (i := 4) (by rfl) (by first | exact .inl rfl | exact .inr (.inl rfl) | exact .inr (.inr rfl))) i_int) a_nil)) (i_v (i := 1) (by rfl) (by first | exact .inl rfl | exact .inr (.inl rfl) | exact .inr (.inr rfl))))) ss_nil)))))))))
theorem ok__law_pick (Z : Zs K mg) (B : BodyOk (BodyX P w K mg base ["rack", "some"] "_law_pick" (defScope (top 49)) f cdv A outer s H) Ds 1000000 k) :
    PSs (BodyX P w K mg base ["rack", "some"] "_law_pick" (defScope (top 49)) f cdv A outer s H) (defBody (top 49)) (tSs K (run (Fns Ds) 1000000 k) 1000000 b__law_pick) :=
  (ss_cons (s_ret (i_ix (i_v (i := 1) (by rfl) (by first | exact .inl rfl | exact .inr (.inl rfl) | exact .inr (.inr rfl))) (i_call B.ok (by rfl) (B.call 36 d__law_take rfl rfl) (a_cons (i_v (i := 0) (by rfl) (by first | exact .inl rfl | exact .inr (.inl rfl) | exact .inr (.inr rfl))) (a_cons (i_biB B.ok (b := .len) rfl (by rfl) Z.f_len boot_len (a_cons (i_v (i := 1) (by rfl) (by first | exact .inl rfl | exact .inr (.inl rfl) | exact .inr (.inr rfl))) a_nil)) a_nil))))) ss_nil)
theorem ok__law_drawn (Z : Zs K mg) (B : BodyOk (BodyX P w K mg base ["rack", "signs", "names", "first"] "_law_drawn" (defScope (top 50)) f cdv A outer s H) Ds 1000000 k) :
    PSs (BodyX P w K mg base ["rack", "signs", "names", "first"] "_law_drawn" (defScope (top 50)) f cdv A outer s H) (defBody (top 50)) (tSs K (run (Fns Ds) 1000000 k) 1000000 b__law_drawn) :=
  (ss_cons (s_if (t_cmp B.ok (i_v (i := 1) (by rfl) (by first | exact .inl rfl | exact .inr (.inl rfl) | exact .inr (.inr rfl))) i_int) (ss_cons (s_ret (i_call B.ok (by rfl) (B.call 37 d__law_pick rfl rfl) (a_cons (i_v (i := 0) (by rfl) (by first | exact .inl rfl | exact .inr (.inl rfl) | exact .inr (.inr rfl))) (a_cons (i_v (i := 2) (by rfl) (by first | exact .inl rfl | exact .inr (.inl rfl) | exact .inr (.inr rfl))) a_nil)))) ss_nil) ss_nil) (ss_cons (s_if (t_w (w_or (t_cmp B.ok (i_v (i := 1) (by rfl) (by first | exact .inl rfl | exact .inr (.inl rfl) | exact .inr (.inr rfl))) i_int) (w_or1 (t_w (w_and (t_cmp B.ok (i_v (i := 1) (by rfl) (by first | exact .inl rfl | exact .inr (.inl rfl) | exact .inr (.inr rfl))) i_int) (w_and1 (t_cmp B.ok (i_call B.ok (by rfl) (B.call 36 d__law_take rfl rfl) (a_cons (i_v (i := 0) (by rfl) (by first | exact .inl rfl | exact .inr (.inl rfl) | exact .inr (.inr rfl))) (a_cons i_int a_nil))) i_int))))))) (ss_cons (s_ret (i_tup (a_cons i_str (a_cons (i_call B.ok (by rfl) (B.call 37 d__law_pick rfl rfl) (a_cons (i_v (i := 0) (by rfl) (by first | exact .inl rfl | exact .inr (.inl rfl) | exact .inr (.inr rfl))) (a_cons (i_v (i := 2) (by rfl) (by first | exact .inl rfl | exact .inr (.inl rfl) | exact .inr (.inr rfl))) a_nil))) (a_cons (i_call B.ok (by rfl) (B.call 38 d__law_drawn rfl rfl) (a_cons (i_v (i := 0) (by rfl) (by first | exact .inl rfl | exact .inr (.inl rfl) | exact .inr (.inr rfl))) (a_cons (i_op (i_v (i := 1) (by rfl) (by first | exact .inl rfl | exact .inr (.inl rfl) | exact .inr (.inr rfl))) i_int) (a_cons (i_v (i := 2) (by rfl) (by first | exact .inl rfl | exact .inr (.inl rfl) | exact .inr (.inr rfl))) a_nil)))) a_nil))))) ss_nil) ss_nil) (ss_cons (s_set (i := 3) B.ok rfl (by first | exact .inl rfl | exact .inr rfl) (i_ite (t_cmp B.ok (i_v (i := 1) (by rfl) (by first | exact .inl rfl | exact .inr (.inl rfl) | exact .inr (.inr rfl))) i_int) (i_op i_int (i_call B.ok (by rfl) (B.call 36 d__law_take rfl rfl) (a_cons (i_v (i := 0) (by rfl) (by first | exact .inl rfl | exact .inr (.inl rfl) | exact .inr (.inr rfl))) (a_cons (i_op (i_v (i := 1) (by rfl) (by first | exact .inl rfl | exact .inr (.inl rfl) | exact .inr (.inr rfl))) i_int) a_nil)))) (i_op (i_biT B.ok (b := .int) rfl (by rfl) Z.f_int boot_int (a_cons (i_op (i_v (i := 1) (by rfl) (by first | exact .inl rfl | exact .inr (.inl rfl) | exact .inr (.inr rfl))) i_int) a_nil)) (i_call B.ok (by rfl) (B.call 36 d__law_take rfl rfl) (a_cons (i_v (i := 0) (by rfl) (by first | exact .inl rfl | exact .inr (.inl rfl) | exact .inr (.inr rfl))) (a_cons (i_biT B.ok (b := .int) rfl (by rfl) Z.f_int boot_int (a_cons (i_op (i_v (i := 1) (by rfl) (by first | exact .inl rfl | exact .inr (.inl rfl) | exact .inr (.inr rfl))) i_int) a_nil)) a_nil))))) rfl (by first | exact .inl rfl | exact .inr rfl)) (ss_cons (s_ret (i_tup (a_cons i_str (a_cons (i_call B.ok (by rfl) (B.call 38 d__law_drawn rfl rfl) (a_cons (i_v (i := 0) (by rfl) (by first | exact .inl rfl | exact .inr (.inl rfl) | exact .inr (.inr rfl))) (a_cons (i_v (i := 3) (by rfl) (by first | exact .inl rfl | exact .inr (.inl rfl) | exact .inr (.inr rfl))) (a_cons (i_v (i := 2) (by rfl) (by first | exact .inl rfl | exact .inr (.inl rfl) | exact .inr (.inr rfl))) a_nil)))) (a_cons (i_call B.ok (by rfl) (B.call 38 d__law_drawn rfl rfl) (a_cons (i_v (i := 0) (by rfl) (by first | exact .inl rfl | exact .inr (.inl rfl) | exact .inr (.inr rfl))) (a_cons (i_op (i_op (i_v (i := 1) (by rfl) (by first | exact .inl rfl | exact .inr (.inl rfl) | exact .inr (.inr rfl))) i_int) (i_v (i := 3) (by rfl) (by first | exact .inl rfl | exact .inr (.inl rfl) | exact .inr (.inr rfl)))) (a_cons (i_v (i := 2) (by rfl) (by first | exact .inl rfl | exact .inr (.inl rfl) | exact .inr (.inr rfl))) a_nil)))) a_nil))))) ss_nil))))
theorem ok__law_listed (Z : Zs K mg) (B : BodyOk (BodyX P w K mg base ["value", "part"] "_law_listed" (defScope (top 51)) f cdv A outer s H) Ds 1000000 k) :
    PSs (BodyX P w K mg base ["value", "part"] "_law_listed" (defScope (top 51)) f cdv A outer s H) (defBody (top 51)) (tSs K (run (Fns Ds) 1000000 k) 1000000 b__law_listed) :=
  (ss_cons (s_ret (i_ite (t_e (i_is1 (by rfl) Z.f_isinstance (i_v (i := 0) (by rfl) (by first | exact .inl rfl | exact .inr (.inl rfl) | exact .inr (.inr rfl))) (ty_ok (t := .str) (by rfl) Z.f_str boot_str))) (i_v (i := 0) (by rfl) (by first | exact .inl rfl | exact .inr (.inl rfl) | exact .inr (.inr rfl))) (i_comp B.ok rfl (it_e (i_v (i := 0) (by rfl) (by first | exact .inl rfl | exact .inr (.inl rfl) | exact .inr (.inr rfl)))) (blkOk_by (N := ["value", "part"]) (sc := (defScope (top 51))) (own := [("part", 1)]) (by decide +kernel)) (fun _ _ _ _ _ => (g_n (i := 1) (cok_blk B.ok) rfl (by first | exact .inl rfl | exact .inr rfl) (by first | exact .inl rfl | exact .inr rfl))) (fun _ _ _ _ _ => (i_call (cok_blk B.ok) (by rfl) (call_blk (B.call 39 d__law_listed rfl rfl)) (a_cons (i_v (i := 1) (by rfl) (by first | exact .inl rfl | exact .inr (.inl rfl) | exact .inr (.inr rfl))) a_nil)))))) ss_nil)
theorem ok__law_walked (Z : Zs K mg) (B : BodyOk (BodyX P w K mg base ["writing", "left", "found", "way", "part"] "_law_walked" (defScope (top 52)) f cdv A outer s H) Ds 1000000 k) :
    PSs (BodyX P w K mg base ["writing", "left", "found", "way", "part"] "_law_walked" (defScope (top 52)) f cdv A outer s H) (defBody (top 52)) (tSs K (run (Fns Ds) 1000000 k) 1000000 b__law_walked) :=
  (ss_cons (s_par2 (i := 1) (j := 2) B.ok rfl rfl (by decide) rfl rfl (a_cons (i_new (a_cons (i_tup (a_cons (i_tup a_nil) (a_cons (i_v (i := 0) (by rfl) (by first | exact .inl rfl | exact .inr (.inl rfl) | exact .inr (.inr rfl))) a_nil))) a_nil)) (a_cons (i_new a_nil) a_nil)) rfl) (ss_cons (s_wh PassesOwn.never (t_cmp B.ok (i_v (i := 1) (by rfl) (by first | exact .inl rfl | exact .inr (.inl rfl) | exact .inr (.inr rfl))) (i_lst a_nil)) (ss_cons (s_asg (i_me0 mf_pop (i_v (i := 1) (by rfl) (by first | exact .inl rfl | exact .inr (.inl rfl) | exact .inr (.inr rfl)))) (g_t B.ok (.cons (i := 3) rfl (by first | exact .inl rfl | exact .inr rfl) (by first | exact .inl rfl | exact .inr rfl) (.cons (i := 4) rfl (by first | exact .inl rfl | exact .inr rfl) (by first | exact .inl rfl | exact .inr rfl) .nil)))) (ss_cons (s_ex (i_me mf_append (i_v (i := 2) (by rfl) (by first | exact .inl rfl | exact .inr (.inl rfl) | exact .inr (.inr rfl))) (a_cons (i_tup (a_cons (i_v (i := 3) (by rfl) (by first | exact .inl rfl | exact .inr (.inl rfl) | exact .inr (.inr rfl))) (a_cons (i_v (i := 4) (by rfl) (by first | exact .inl rfl | exact .inr (.inl rfl) | exact .inr (.inr rfl))) a_nil))) a_nil))) (ss_cons (s_if (t_not (t_e (i_is1 (by rfl) Z.f_isinstance (i_v (i := 4) (by rfl) (by first | exact .inl rfl | exact .inr (.inl rfl) | exact .inr (.inr rfl))) (ty_ok (t := .str) (by rfl) Z.f_str boot_str)))) (ss_cons (s_if (t_cmp B.ok (i_ix (i_v (i := 4) (by rfl) (by first | exact .inl rfl | exact .inr (.inl rfl) | exact .inr (.inr rfl))) i_int) i_str) (ss_cons (s_ex (i_me mf_append (i_v (i := 1) (by rfl) (by first | exact .inl rfl | exact .inr (.inl rfl) | exact .inr (.inr rfl))) (a_cons (i_tup (a_cons (i_op (i_v (i := 3) (by rfl) (by first | exact .inl rfl | exact .inr (.inl rfl) | exact .inr (.inr rfl))) (i_tup (a_cons i_int a_nil))) (a_cons (i_ix (i_v (i := 4) (by rfl) (by first | exact .inl rfl | exact .inr (.inl rfl) | exact .inr (.inr rfl))) i_int) a_nil))) a_nil))) ss_nil) ss_nil) (ss_cons (s_ex (i_me mf_append (i_v (i := 1) (by rfl) (by first | exact .inl rfl | exact .inr (.inl rfl) | exact .inr (.inr rfl))) (a_cons (i_tup (a_cons (i_op (i_v (i := 3) (by rfl) (by first | exact .inl rfl | exact .inr (.inl rfl) | exact .inr (.inr rfl))) (i_tup (a_cons i_int a_nil))) (a_cons (i_ite (t_cmp B.ok (i_ix (i_v (i := 4) (by rfl) (by first | exact .inl rfl | exact .inr (.inl rfl) | exact .inr (.inr rfl))) i_int) i_str) (i_ix (i_v (i := 4) (by rfl) (by first | exact .inl rfl | exact .inr (.inl rfl) | exact .inr (.inr rfl))) i_int) (i_ix (i_v (i := 4) (by rfl) (by first | exact .inl rfl | exact .inr (.inl rfl) | exact .inr (.inr rfl))) i_int)) a_nil))) a_nil))) ss_nil)) ss_nil) ss_nil)))) (ss_cons (s_ret (i_frz (i := 2) (by rfl) (by first | exact .inl rfl | exact .inr (.inl rfl) | exact .inr (.inr rfl)))) ss_nil)))
theorem ok__law_items (Z : Zs K mg) (B : BodyOk (BodyX P w K mg base ["writing", "left", "found", "part"] "_law_items" (defScope (top 53)) f cdv A outer s H) Ds 1000000 k) :
    PSs (BodyX P w K mg base ["writing", "left", "found", "part"] "_law_items" (defScope (top 53)) f cdv A outer s H) (defBody (top 53)) (tSs K (run (Fns Ds) 1000000 k) 1000000 b__law_items) :=
  (ss_cons (s_par2 (i := 1) (j := 2) B.ok rfl rfl (by decide) rfl rfl (a_cons (i_new (a_cons (i_v (i := 0) (by rfl) (by first | exact .inl rfl | exact .inr (.inl rfl) | exact .inr (.inr rfl))) a_nil)) (a_cons (i_new a_nil) a_nil)) rfl) (ss_cons (s_wh PassesOwn.never (t_cmp B.ok (i_v (i := 1) (by rfl) (by first | exact .inl rfl | exact .inr (.inl rfl) | exact .inr (.inr rfl))) (i_lst a_nil)) (ss_cons (s_set (i := 3) B.ok rfl (by first | exact .inl rfl | exact .inr rfl) (i_me0 mf_pop (i_v (i := 1) (by rfl) (by first | exact .inl rfl | exact .inr (.inl rfl) | exact .inr (.inr rfl)))) rfl (by first | exact .inl rfl | exact .inr rfl)) (ss_cons (s_if (t_e (i_is1 (by rfl) Z.f_isinstance (i_v (i := 3) (by rfl) (by first | exact .inl rfl | exact .inr (.inl rfl) | exact .inr (.inr rfl))) (ty_ok (t := .str) (by rfl) Z.f_str boot_str))) (ss_cons (s_ex (i_me mf_append (i_v (i := 2) (by rfl) (by first | exact .inl rfl | exact .inr (.inl rfl) | exact .inr (.inr rfl))) (a_cons (i_v (i := 3) (by rfl) (by first | exact .inl rfl | exact .inr (.inl rfl) | exact .inr (.inr rfl))) a_nil))) ss_nil) (ss_cons (s_if (t_cmp B.ok (i_ix (i_v (i := 3) (by rfl) (by first | exact .inl rfl | exact .inr (.inl rfl) | exact .inr (.inr rfl))) i_int) i_str) (ss_cons (s_ex (i_me mf_extend (i_v (i := 2) (by rfl) (by first | exact .inl rfl | exact .inr (.inl rfl) | exact .inr (.inr rfl))) (a_cons (i_lst (a_cons i_str (a_cons (i_ix (i_v (i := 3) (by rfl) (by first | exact .inl rfl | exact .inr (.inl rfl) | exact .inr (.inr rfl))) i_int) a_nil))) a_nil))) (ss_cons (s_ex (i_me mf_append (i_v (i := 1) (by rfl) (by first | exact .inl rfl | exact .inr (.inl rfl) | exact .inr (.inr rfl))) (a_cons (i_ix (i_v (i := 3) (by rfl) (by first | exact .inl rfl | exact .inr (.inl rfl) | exact .inr (.inr rfl))) i_int) a_nil))) ss_nil)) (ss_cons (s_ex (i_me mf_append (i_v (i := 2) (by rfl) (by first | exact .inl rfl | exact .inr (.inl rfl) | exact .inr (.inr rfl))) (a_cons i_str a_nil))) (ss_cons (s_ex (i_me mf_extend (i_v (i := 1) (by rfl) (by first | exact .inl rfl | exact .inr (.inl rfl) | exact .inr (.inr rfl))) (a_cons (i_lst (a_cons (i_ix (i_v (i := 3) (by rfl) (by first | exact .inl rfl | exact .inr (.inl rfl) | exact .inr (.inr rfl))) i_int) (a_cons (i_ix (i_v (i := 3) (by rfl) (by first | exact .inl rfl | exact .inr (.inl rfl) | exact .inr (.inr rfl))) i_int) a_nil))) a_nil))) ss_nil))) ss_nil)) ss_nil))) (ss_cons (s_ret (i_frz (i := 2) (by rfl) (by first | exact .inl rfl | exact .inr (.inl rfl) | exact .inr (.inr rfl)))) ss_nil)))
theorem ok__law_is_name (Z : Zs K mg) (B : BodyOk (BodyX P w K mg base ["value", "sign"] "_law_is_name" (defScope (top 54)) f cdv A outer s H) Ds 1000000 k) :
    PSs (BodyX P w K mg base ["value", "sign"] "_law_is_name" (defScope (top 54)) f cdv A outer s H) (defBody (top 54)) (tSs K (run (Fns Ds) 1000000 k) 1000000 b__law_is_name) :=
  (ss_cons (s_if (t_w (w_or (t_not (t_e (i_is1 (by rfl) Z.f_isinstance (i_v (i := 0) (by rfl) (by first | exact .inl rfl | exact .inr (.inl rfl) | exact .inr (.inr rfl))) (ty_ok (t := .str) (by rfl) Z.f_str boot_str)))) (w_or (t_cmp B.ok (i_v (i := 0) (by rfl) (by first | exact .inl rfl | exact .inr (.inl rfl) | exact .inr (.inr rfl))) (i_tup (a_cons i_str (a_cons i_str (a_cons i_str a_nil))))) (w_or1 (t_cmp B.ok (i_biB B.ok (b := .len) rfl (by rfl) Z.f_len boot_len (a_cons (i_v (i := 0) (by rfl) (by first | exact .inl rfl | exact .inr (.inl rfl) | exact .inr (.inr rfl))) a_nil)) i_int))))) (ss_cons (s_ret i_bl) ss_nil) ss_nil) (ss_cons (s_ret (i_and (i_cmp B.ok (i_ix (i_v (i := 0) (by rfl) (by first | exact .inl rfl | exact .inr (.inl rfl) | exact .inr (.inr rfl))) i_int) (i_biT B.ok (b := .list) rfl (by rfl) Z.f_list boot_list (a_cons i_str a_nil))) (i_one (i_cmp B.ok (i_compI B.ok rfl (it_e (i_v (i := 0) (by rfl) (by first | exact .inl rfl | exact .inr (.inl rfl) | exact .inr (.inr rfl)))) (blkOk_by (N := ["value", "sign"]) (sc := (defScope (top 54))) (own := [("sign", 1)]) (by decide +kernel)) (fun _ _ _ _ _ => (g_n (i := 1) (cok_blk B.ok) rfl (by first | exact .inl rfl | exact .inr rfl) (by first | exact .inl rfl | exact .inr rfl))) (fun _ _ _ _ _ => (t_cmp (cok_blk B.ok) (i_v (i := 1) (by rfl) (by first | exact .inl rfl | exact .inr (.inl rfl) | exact .inr (.inr rfl))) i_str)) (fun _ _ _ _ _ => (i_v (i := 1) (by rfl) (by first | exact .inl rfl | exact .inr (.inl rfl) | exact .inr (.inr rfl))))) (i_lst a_nil))))) ss_nil))
theorem ok__law_is (Z : Zs K mg) (B : BodyOk (BodyX P w K mg base ["value"] "_law_is" (defScope (top 55)) f cdv A outer s H) Ds 1000000 k) :
    PSs (BodyX P w K mg base ["value"] "_law_is" (defScope (top 55)) f cdv A outer s H) (defBody (top 55)) (tSs K (run (Fns Ds) 1000000 k) 1000000 b__law_is) :=
  (ss_cons (s_if (t_w (w_or (t_e (i_is1 (by rfl) Z.f_isinstance (i_v (i := 0) (by rfl) (by first | exact .inl rfl | exact .inr (.inl rfl) | exact .inr (.inr rfl))) (ty_ok (t := .str) (by rfl) Z.f_str boot_str))) (w_or (t_not (t_e (i_isT (by decide) (by rfl) Z.f_isinstance (i_v (i := 0) (by rfl) (by first | exact .inl rfl | exact .inr (.inl rfl) | exact .inr (.inr rfl))) (tys_cons (ty_ok (t := .list) (by rfl) Z.f_list boot_list) (tys_cons (ty_ok (t := .tuple) (by rfl) Z.f_tuple boot_tuple) tys_nil))))) (w_or1 (t_cmp B.ok (i_biB B.ok (b := .len) rfl (by rfl) Z.f_len boot_len (a_cons (i_v (i := 0) (by rfl) (by first | exact .inl rfl | exact .inr (.inl rfl) | exact .inr (.inr rfl))) a_nil)) i_int))))) (ss_cons (s_ret (i_call B.ok (by rfl) (B.call 42 d__law_is_name rfl rfl) (a_cons (i_v (i := 0) (by rfl) (by first | exact .inl rfl | exact .inr (.inl rfl) | exact .inr (.inr rfl))) a_nil))) ss_nil) ss_nil) (ss_cons (s_if (t_w (w_or (t_not (t_e (i_is1 (by rfl) Z.f_isinstance (i_ix (i_v (i := 0) (by rfl) (by first | exact .inl rfl | exact .inr (.inl rfl) | exact .inr (.inr rfl))) i_int) (ty_ok (t := .str) (by rfl) Z.f_str boot_str)))) (w_or (t_cmp B.ok (i_ix (i_v (i := 0) (by rfl) (by first | exact .inl rfl | exact .inr (.inl rfl) | exact .inr (.inr rfl))) i_int) (i_tup (a_cons i_str (a_cons i_str a_nil)))) (w_or1 (t_not (t_e (i_call B.ok (by rfl) (B.call 43 d__law_is rfl rfl) (a_cons (i_ix (i_v (i := 0) (by rfl) (by first | exact .inl rfl | exact .inr (.inl rfl) | exact .inr (.inr rfl))) i_int) a_nil)))))))) (ss_cons (s_ret i_bl) ss_nil) ss_nil) (ss_cons (s_ret (i_ite (t_cmp B.ok (i_ix (i_v (i := 0) (by rfl) (by first | exact .inl rfl | exact .inr (.inl rfl) | exact .inr (.inr rfl))) i_int) i_str) (i_call B.ok (by rfl) (B.call 42 d__law_is_name rfl rfl) (a_cons (i_ix (i_v (i := 0) (by rfl) (by first | exact .inl rfl | exact .inr (.inl rfl) | exact .inr (.inr rfl))) i_int) a_nil)) (i_call B.ok (by rfl) (B.call 43 d__law_is rfl rfl) (a_cons (i_ix (i_v (i := 0) (by rfl) (by first | exact .inl rfl | exact .inr (.inl rfl) | exact .inr (.inr rfl))) i_int) a_nil)))) ss_nil)))
theorem ok__law_bent (Z : Zs K mg) (B : BodyOk (BodyX P w K mg base ["writing", "way", "other", "found", "spot"] "_law_bent" (defScope (top 56)) f cdv A outer s H) Ds 1000000 k) :
    PSs (BodyX P w K mg base ["writing", "way", "other", "found", "spot"] "_law_bent" (defScope (top 56)) f cdv A outer s H) (defBody (top 56)) (tSs K (run (Fns Ds) 1000000 k) 1000000 b__law_bent) :=
  (ss_cons (s_if (t_cmp B.ok (i_v (i := 1) (by rfl) (by first | exact .inl rfl | exact .inr (.inl rfl) | exact .inr (.inr rfl))) (i_tup a_nil)) (ss_cons (s_ret (i_v (i := 2) (by rfl) (by first | exact .inl rfl | exact .inr (.inl rfl) | exact .inr (.inr rfl)))) ss_nil) ss_nil) (ss_cons (s_set (i := 3) B.ok rfl (by first | exact .inl rfl | exact .inr rfl) (i_call B.ok (by rfl) (B.call 39 d__law_listed rfl rfl) (a_cons (i_v (i := 0) (by rfl) (by first | exact .inl rfl | exact .inr (.inl rfl) | exact .inr (.inr rfl))) a_nil)) rfl (by first | exact .inl rfl | exact .inr rfl)) (ss_cons (s_set (i := 4) B.ok rfl (by first | exact .inl rfl | exact .inr rfl) (i_ite (t_cmp B.ok (i_ix (i_v (i := 0) (by rfl) (by first | exact .inl rfl | exact .inr (.inl rfl) | exact .inr (.inr rfl))) i_int) i_str) i_int (i_op i_int (i_ix (i_v (i := 1) (by rfl) (by first | exact .inl rfl | exact .inr (.inl rfl) | exact .inr (.inr rfl))) i_int))) rfl (by first | exact .inl rfl | exact .inr rfl)) (ss_cons (s_put (i_v (i := 3) (by rfl) (by first | exact .inl rfl | exact .inr (.inl rfl) | exact .inr (.inr rfl))) (i_v (i := 4) (by rfl) (by first | exact .inl rfl | exact .inr (.inl rfl) | exact .inr (.inr rfl))) (i_call B.ok (by rfl) (B.call 44 d__law_bent rfl rfl) (a_cons (i_ix (i_v (i := 0) (by rfl) (by first | exact .inl rfl | exact .inr (.inl rfl) | exact .inr (.inr rfl))) (i_v (i := 4) (by rfl) (by first | exact .inl rfl | exact .inr (.inl rfl) | exact .inr (.inr rfl)))) (a_cons (i_sl (i_v (i := 1) (by rfl) (by first | exact .inl rfl | exact .inr (.inl rfl) | exact .inr (.inr rfl))) (o_some i_int) o_none) (a_cons (i_v (i := 2) (by rfl) (by first | exact .inl rfl | exact .inr (.inl rfl) | exact .inr (.inr rfl))) a_nil))))) (ss_cons (s_ret (i_frzD (i := 3) (by rfl) (by first | exact .inl rfl | exact .inr (.inl rfl) | exact .inr (.inr rfl)))) ss_nil)))))
theorem ok__law_strange (Z : Zs K mg) (B : BodyOk (BodyX P w K mg base ["found"] "_law_strange" (defScope (top 57)) f cdv A outer s H) Ds 1000000 k) :
    PSs (BodyX P w K mg base ["found"] "_law_strange" (defScope (top 57)) f cdv A outer s H) (defBody (top 57)) (tSs K (run (Fns Ds) 1000000 k) 1000000 b__law_strange) :=
  (ss_cons (s_set (i := 0) B.ok rfl (by first | exact .inl rfl | exact .inr rfl) (i_new (a_cons i_non (a_cons i_int (a_cons i_bl (a_cons i_int (a_cons (i_tup a_nil) (a_cons (i_lst a_nil) (a_cons i_dct0 (a_cons i_str (a_cons i_str (a_cons i_str (a_cons i_str (a_cons i_str (a_cons (i_op i_str i_int) (a_cons (i_op i_str i_int) (a_cons i_str (a_cons i_str (a_cons i_str (a_cons i_str (a_cons i_str (a_cons (i_tup (a_cons i_str (a_cons i_str a_nil))) a_nil))))))))))))))))))))) rfl (by first | exact .inl rfl | exact .inr rfl)) (ss_cons (s_ex (i_me mf_extend (i_v (i := 0) (by rfl) (by first | exact .inl rfl | exact .inr (.inl rfl) | exact .inr (.inr rfl))) (a_cons (i_lst (a_cons (i_tup (a_cons i_str (a_cons i_str a_nil))) (a_cons (i_tup (a_cons i_str (a_cons i_str (a_cons i_str (a_cons i_str a_nil))))) (a_cons (i_tup (a_cons i_str (a_cons i_str (a_cons i_str (a_cons i_str a_nil))))) (a_cons (i_tup (a_cons i_str (a_cons i_str (a_cons i_str a_nil)))) (a_cons (i_tup (a_cons i_str (a_cons i_str (a_cons i_str a_nil)))) (a_cons (i_tup (a_cons i_str (a_cons i_int (a_cons i_str a_nil)))) (a_cons (i_tup (a_cons i_str (a_cons (i_lst (a_cons i_str a_nil)) (a_cons i_str a_nil)))) a_nil)))))))) a_nil))) (ss_cons (s_ex (i_me mf_extend (i_v (i := 0) (by rfl) (by first | exact .inl rfl | exact .inr (.inl rfl) | exact .inr (.inr rfl))) (a_cons (i_lst (a_cons (i_tup (a_cons i_str (a_cons i_str (a_cons i_non a_nil)))) (a_cons (i_tup (a_cons i_str (a_cons i_str (a_cons i_str a_nil)))) (a_cons (i_tup (a_cons i_str (a_cons (i_tup (a_cons i_str (a_cons i_str (a_cons i_str a_nil)))) (a_cons i_str a_nil)))) (a_cons (i_lst (a_cons i_str (a_cons i_str (a_cons (i_lst (a_cons i_str (a_cons i_str (a_cons i_str a_nil)))) a_nil)))) (a_cons (i_tup (a_cons i_str (a_cons i_str (a_cons i_str a_nil)))) (a_cons (i_tup (a_cons i_str (a_cons i_str (a_cons i_str a_nil)))) a_nil))))))) a_nil))) (ss_cons (s_ret (i_op (i_v (i := 0) (by rfl) (by first | exact .inl rfl | exact .inr (.inl rfl) | exact .inr (.inr rfl))) (i_lst (a_cons (i_tup (a_cons (i_tup (a_cons i_str a_nil)) (a_cons i_str (a_cons i_str a_nil)))) (a_cons (i_lst (a_cons i_str (a_cons (i_lst (a_cons i_str a_nil)) (a_cons i_str a_nil)))) (a_cons (i_lst (a_cons i_str (a_cons i_str (a_cons (i_tup (a_cons i_str a_nil)) a_nil)))) (a_cons i_dct1 (a_cons (i_tup (a_cons i_str (a_cons i_str (a_cons i_str a_nil)))) (a_cons (i_tup (a_cons i_int (a_cons i_str (a_cons i_str a_nil)))) (a_cons (i_tup (a_cons i_str (a_cons i_str (a_cons i_str a_nil)))) (a_cons i_str (a_cons i_str a_nil)))))))))))) ss_nil))))
theorem ok__law_told_right (Z : Zs K mg) (B : BodyOk (BodyX P w K mg base ["rack", "writing", "pairs", "items", "listed", "ways", "signs", "layers", "told", "way", "part", "text", "item"] "_law_told_right" (defScope (top 58)) f cdv A outer s H) Ds 1000000 k) :
    PSs (BodyX P w K mg base ["rack", "writing", "pairs", "items", "listed", "ways", "signs", "layers", "told", "way", "part", "text", "item"] "_law_told_right" (defScope (top 58)) f cdv A outer s H) (defBody (top 58)) (tSs K (run (Fns Ds) 1000000 k) 1000000 b__law_told_right) :=
  (ss_cons (s_par3 (i := 2) (j := 3) (l := 4) B.ok rfl rfl rfl (by decide) (by decide) (by decide) rfl rfl rfl (a_cons (i_call B.ok (by rfl) (B.call 40 d__law_walked rfl rfl) (a_cons (i_v (i := 1) (by rfl) (by first | exact .inl rfl | exact .inr (.inl rfl) | exact .inr (.inr rfl))) a_nil)) (a_cons (i_call B.ok (by rfl) (B.call 41 d__law_items rfl rfl) (a_cons (i_v (i := 1) (by rfl) (by first | exact .inl rfl | exact .inr (.inl rfl) | exact .inr (.inr rfl))) a_nil)) (a_cons (i_call B.ok (by rfl) (B.call 39 d__law_listed rfl rfl) (a_cons (i_v (i := 1) (by rfl) (by first | exact .inl rfl | exact .inr (.inl rfl) | exact .inr (.inr rfl))) a_nil)) a_nil))) rfl) (ss_frzD (ss_cons (s_setLc (i := 5) B.ok rfl rfl (sw_true rfl rfl rfl (by decide +kernel)) rfl (it_e (i_v (i := 2) (by rfl) (by first | exact .inl rfl | exact .inr (.inl rfl) | exact .inr (.inr rfl)))) (blkOk_by (N := ["rack", "writing", "pairs", "items", "listed", "ways", "signs", "layers", "told", "way", "part", "text", "item"]) (sc := (defScope (top 58))) (own := [("way", 9), ("part", 10)]) (by decide +kernel)) (fun _ _ _ _ _ => (g_t (cok_blk B.ok) (.cons (i := 9) rfl (by first | exact .inl rfl | exact .inr rfl) (by first | exact .inl rfl | exact .inr rfl) (.cons (i := 10) rfl (by first | exact .inl rfl | exact .inr rfl) (by first | exact .inl rfl | exact .inr rfl) .nil)))) (fun _ _ _ _ _ => (i_v (i := 9) (by rfl) (by first | exact .inl rfl | exact .inr (.inl rfl) | exact .inr (.inr rfl))))) (ss_cons (s_par2 (i := 6) (j := 7) B.ok rfl rfl (by decide) rfl rfl (a_cons (i_biB B.ok (b := .len) rfl (by rfl) Z.f_len boot_len (a_cons (i_compI B.ok rfl (it_e (i_v (i := 3) (by rfl) (by first | exact .inl rfl | exact .inr (.inl rfl) | exact .inr (.inr rfl)))) (blkOk_by (N := ["rack", "writing", "pairs", "items", "listed", "ways", "signs", "layers", "told", "way", "part", "text", "item"]) (sc := (defScope (top 58))) (own := [("item", 12)]) (by decide +kernel)) (fun _ _ _ _ _ => (g_n (i := 12) (cok_blk B.ok) rfl (by first | exact .inl rfl | exact .inr rfl) (by first | exact .inl rfl | exact .inr rfl))) (fun _ _ _ _ _ => (t_cmp (cok_blk B.ok) (i_v (i := 12) (by rfl) (by first | exact .inl rfl | exact .inr (.inl rfl) | exact .inr (.inr rfl))) i_str)) (fun _ _ _ _ _ => (i_v (i := 12) (by rfl) (by first | exact .inl rfl | exact .inr (.inl rfl) | exact .inr (.inr rfl))))) a_nil)) (a_cons (i_op i_int (i_biB B.ok (b := .maxl) rfl (by rfl) Z.f_max boot_max (a_cons (i_comp B.ok rfl (it_e (i_v (i := 5) (by rfl) (by first | exact .inl rfl | exact .inr (.inl rfl) | exact .inr (.inr rfl)))) (blkOk_by (N := ["rack", "writing", "pairs", "items", "listed", "ways", "signs", "layers", "told", "way", "part", "text", "item"]) (sc := (defScope (top 58))) (own := [("way", 9)]) (by decide +kernel)) (fun _ _ _ _ _ => (g_n (i := 9) (cok_blk B.ok) rfl (by first | exact .inl rfl | exact .inr rfl) (by first | exact .inl rfl | exact .inr rfl))) (fun _ _ _ _ _ => (i_biB (cok_blk B.ok) (b := .len) rfl (by rfl) Z.f_len boot_len (a_cons (i_v (i := 9) (by rfl) (by first | exact .inl rfl | exact .inr (.inl rfl) | exact .inr (.inr rfl))) a_nil)))) a_nil))) a_nil)) rfl) (ss_cons (s_if (t_w (w_or (t_cmp B.ok (i_callK0 B.ok (by rfl) (B.callK 12 d_is_writing _ _ _ rfl rfl kw_is_writing_0_value) (k_cons (i_v (i := 1) (by rfl) (by first | exact .inl rfl | exact .inr (.inl rfl) | exact .inr (.inr rfl))) k_nil) (by rfl)) i_bl) (w_or (t_cmp B.ok (i_call B.ok (by rfl) (B.call 12 d_is_writing rfl rfl) (a_cons (i_v (i := 4) (by rfl) (by first | exact .inl rfl | exact .inr (.inl rfl) | exact .inr (.inr rfl))) a_nil)) i_bl) (w_or1 (t_cmp B.ok (i_biB B.ok (b := .len) rfl (by rfl) Z.f_len boot_len (a_cons (i_v (i := 5) (by rfl) (by first | exact .inl rfl | exact .inr (.inl rfl) | exact .inr (.inr rfl))) a_nil)) (i_v (i := 6) (by rfl) (by first | exact .inl rfl | exact .inr (.inl rfl) | exact .inr (.inr rfl)))))))) (ss_cons (s_ret i_bl) ss_nil) ss_nil) (ss_cons (s_if (t_w (w_or (t_cmp B.ok (i_biB B.ok (b := .repr) rfl (by rfl) Z.f_repr boot_repr (a_cons (i_callK0 B.ok (by rfl) (B.callK 24 d_signs_of _ _ _ rfl rfl kw_signs_of_0_writing) (k_cons (i_v (i := 4) (by rfl) (by first | exact .inl rfl | exact .inr (.inl rfl) | exact .inr (.inr rfl))) k_nil) (by rfl)) a_nil)) (i_biB B.ok (b := .repr) rfl (by rfl) Z.f_repr boot_repr (a_cons (i_v (i := 6) (by rfl) (by first | exact .inl rfl | exact .inr (.inl rfl) | exact .inr (.inr rfl))) a_nil))) (w_or (t_cmp B.ok (i_biB B.ok (b := .repr) rfl (by rfl) Z.f_repr boot_repr (a_cons (i_callK0 B.ok (by rfl) (B.callK 25 d_layers_of _ _ _ rfl rfl kw_layers_of_0_writing) (k_cons (i_v (i := 4) (by rfl) (by first | exact .inl rfl | exact .inr (.inl rfl) | exact .inr (.inr rfl))) k_nil) (by rfl)) a_nil)) (i_biB B.ok (b := .repr) rfl (by rfl) Z.f_repr boot_repr (a_cons (i_v (i := 7) (by rfl) (by first | exact .inl rfl | exact .inr (.inl rfl) | exact .inr (.inr rfl))) a_nil))) (w_or (t_cmp B.ok (i_call B.ok (by rfl) (B.call 24 d_signs_of rfl rfl) (a_cons (i_v (i := 1) (by rfl) (by first | exact .inl rfl | exact .inr (.inl rfl) | exact .inr (.inr rfl))) a_nil)) (i_v (i := 6) (by rfl) (by first | exact .inl rfl | exact .inr (.inl rfl) | exact .inr (.inr rfl)))) (w_or1 (t_cmp B.ok (i_call B.ok (by rfl) (B.call 25 d_layers_of rfl rfl) (a_cons (i_v (i := 1) (by rfl) (by first | exact .inl rfl | exact .inr (.inl rfl) | exact .inr (.inr rfl))) a_nil)) (i_v (i := 7) (by rfl) (by first | exact .inl rfl | exact .inr (.inl rfl) | exact .inr (.inr rfl))))))))) (ss_cons (s_ret i_bl) ss_nil) ss_nil) (ss_cons (s_set (i := 8) B.ok rfl (by first | exact .inl rfl | exact .inr rfl) (i_callK0 B.ok (by rfl) (B.callK 33 d_places_of _ _ _ rfl rfl kw_places_of_0_writing) (k_cons (i_call B.ok (by rfl) (B.call 37 d__law_pick rfl rfl) (a_cons (i_v (i := 0) (by rfl) (by first | exact .inl rfl | exact .inr (.inl rfl) | exact .inr (.inr rfl))) (a_cons (i_lst (a_cons (i_v (i := 1) (by rfl) (by first | exact .inl rfl | exact .inr (.inl rfl) | exact .inr (.inr rfl))) (a_cons (i_v (i := 4) (by rfl) (by first | exact .inl rfl | exact .inr (.inl rfl) | exact .inr (.inr rfl))) a_nil))) a_nil))) k_nil) (by rfl)) rfl (by first | exact .inl rfl | exact .inr rfl)) (ss_cons (s_if (t_w (w_or (t_cmp B.ok (i_biB B.ok (b := .repr) rfl (by rfl) Z.f_repr boot_repr (a_cons (i_v (i := 8) (by rfl) (by first | exact .inl rfl | exact .inr (.inl rfl) | exact .inr (.inr rfl))) a_nil)) (i_biB B.ok (b := .repr) rfl (by rfl) Z.f_repr boot_repr (a_cons (i_biT B.ok (b := .tuple) rfl (by rfl) Z.f_tuple boot_tuple (a_cons (i_v (i := 5) (by rfl) (by first | exact .inl rfl | exact .inr (.inl rfl) | exact .inr (.inr rfl))) a_nil)) a_nil))) (w_or1 (t_cmp B.ok (i_biT B.ok (b := .list) rfl (by rfl) Z.f_list boot_list (a_cons (i_v (i := 8) (by rfl) (by first | exact .inl rfl | exact .inr (.inl rfl) | exact .inr (.inr rfl))) a_nil)) (i_biB B.ok (b := .sorted) rfl (by rfl) Z.f_sorted boot_sorted (a_cons (i_v (i := 5) (by rfl) (by first | exact .inl rfl | exact .inr (.inl rfl) | exact .inr (.inr rfl))) a_nil)))))) (ss_cons (s_ret i_bl) ss_nil) ss_nil) (ss_cons (s_for B.ok PassesOwn.never (it_e (i_v (i := 2) (by rfl) (by first | exact .inl rfl | exact .inr (.inl rfl) | exact .inr (.inr rfl)))) (g_t B.ok (.cons (i := 9) rfl (by first | exact .inl rfl | exact .inr rfl) (by first | exact .inl rfl | exact .inr rfl) (.cons (i := 10) rfl (by first | exact .inl rfl | exact .inr rfl) (by first | exact .inl rfl | exact .inr rfl) .nil))) (ss_cons (s_if (t_w (w_or (t_cmp B.ok (i_biB B.ok (b := .repr) rfl (by rfl) Z.f_repr boot_repr (a_cons (i_call B.ok (by rfl) (B.call 34 d_part_at rfl rfl) (a_cons (i_v (i := 1) (by rfl) (by first | exact .inl rfl | exact .inr (.inl rfl) | exact .inr (.inr rfl))) (a_cons (i_v (i := 9) (by rfl) (by first | exact .inl rfl | exact .inr (.inl rfl) | exact .inr (.inr rfl))) a_nil))) a_nil)) (i_biB B.ok (b := .repr) rfl (by rfl) Z.f_repr boot_repr (a_cons (i_v (i := 10) (by rfl) (by first | exact .inl rfl | exact .inr (.inl rfl) | exact .inr (.inr rfl))) a_nil))) (w_or1 (t_cmp B.ok (i_biB B.ok (b := .repr) rfl (by rfl) Z.f_repr boot_repr (a_cons (i_callK0 B.ok (by rfl) (B.callK 34 d_part_at _ _ _ rfl rfl kw_part_at_0_place_writing) (k_cons (i_biT B.ok (b := .list) rfl (by rfl) Z.f_list boot_list (a_cons (i_v (i := 9) (by rfl) (by first | exact .inl rfl | exact .inr (.inl rfl) | exact .inr (.inr rfl))) a_nil)) (k_cons (i_v (i := 4) (by rfl) (by first | exact .inl rfl | exact .inr (.inl rfl) | exact .inr (.inr rfl))) k_nil)) (by rfl)) a_nil)) (i_biB B.ok (b := .repr) rfl (by rfl) Z.f_repr boot_repr (a_cons (i_v (i := 10) (by rfl) (by first | exact .inl rfl | exact .inr (.inl rfl) | exact .inr (.inr rfl))) a_nil)))))) (ss_cons (s_ret i_bl) ss_nil) ss_nil) ss_nil)) (ss_cons (s_set (i := 11) B.ok rfl (by first | exact .inl rfl | exact .inr rfl) (i_callK0 B.ok (by rfl) (B.callK 27 d_writing_text _ _ _ rfl rfl kw_writing_text_0_writing) (k_cons (i_v (i := 4) (by rfl) (by first | exact .inl rfl | exact .inr (.inl rfl) | exact .inr (.inr rfl))) k_nil) (by rfl)) rfl (by first | exact .inl rfl | exact .inr rfl)) (ss_cons (s_ret (i_and (i_cmp B.ok (i_v (i := 11) (by rfl) (by first | exact .inl rfl | exact .inr (.inl rfl) | exact .inr (.inr rfl))) (i_me mf_join i_str (a_cons (i_v (i := 3) (by rfl) (by first | exact .inl rfl | exact .inr (.inl rfl) | exact .inr (.inr rfl))) a_nil))) (i_and (i_cmp B.ok (i_call B.ok (by rfl) (B.call 27 d_writing_text rfl rfl) (a_cons (i_v (i := 1) (by rfl) (by first | exact .inl rfl | exact .inr (.inl rfl) | exact .inr (.inr rfl))) a_nil)) (i_v (i := 11) (by rfl) (by first | exact .inl rfl | exact .inr (.inl rfl) | exact .inr (.inr rfl)))) (i_and (i_cmp B.ok (i_biB B.ok (b := .repr) rfl (by rfl) Z.f_repr boot_repr (a_cons (i_call B.ok (by rfl) (B.call 28 d_read_writing rfl rfl) (a_cons (i_v (i := 11) (by rfl) (by first | exact .inl rfl | exact .inr (.inl rfl) | exact .inr (.inr rfl))) a_nil)) a_nil)) (i_biB B.ok (b := .repr) rfl (by rfl) Z.f_repr boot_repr (a_cons (i_v (i := 1) (by rfl) (by first | exact .inl rfl | exact .inr (.inl rfl) | exact .inr (.inr rfl))) a_nil))) (i_one (i_cmp B.ok (i_callK0 B.ok (by rfl) (B.callK 28 d_read_writing _ _ _ rfl rfl kw_read_writing_0_text) (k_cons (i_v (i := 11) (by rfl) (by first | exact .inl rfl | exact .inr (.inl rfl) | exact .inr (.inr rfl))) k_nil) (by rfl)) (i_v (i := 1) (by rfl) (by first | exact .inl rfl | exact .inr (.inl rfl) | exact .inr (.inr rfl))))))))) ss_nil)))))))))))
theorem ok__law_looked_right (Z : Zs K mg) (B : BodyOk (BodyX P w K mg base ["rack", "writing", "pairs", "some", "turn", "way", "part", "value"] "_law_looked_right" (defScope (top 59)) f cdv A outer s H) Ds 1000000 k) :
    PSs (BodyX P w K mg base ["rack", "writing", "pairs", "some", "turn", "way", "part", "value"] "_law_looked_right" (defScope (top 59)) f cdv A outer s H) (defBody (top 59)) (tSs K (run (Fns Ds) 1000000 k) 1000000 b__law_looked_right) :=
  (ss_cons (s_par2 (i := 2) (j := 3) B.ok rfl rfl (by decide) rfl rfl (a_cons (i_call B.ok (by rfl) (B.call 40 d__law_walked rfl rfl) (a_cons (i_v (i := 1) (by rfl) (by first | exact .inl rfl | exact .inr (.inl rfl) | exact .inr (.inr rfl))) a_nil)) (a_cons (i_call0 B.ok (by rfl) (B.call 45 d__law_strange rfl rfl)) a_nil)) rfl) (ss_cons (s_for B.ok PassesOwn.never (it_rng1 (by rfl) Z.f_range i_int) (g_n (i := 4) B.ok rfl (by first | exact .inl rfl | exact .inr rfl) (by first | exact .inl rfl | exact .inr rfl)) (ss_cons (s_asg (i_call B.ok (by rfl) (B.call 37 d__law_pick rfl rfl) (a_cons (i_v (i := 0) (by rfl) (by first | exact .inl rfl | exact .inr (.inl rfl) | exact .inr (.inr rfl))) (a_cons (i_v (i := 2) (by rfl) (by first | exact .inl rfl | exact .inr (.inl rfl) | exact .inr (.inr rfl))) a_nil))) (g_t B.ok (.cons (i := 5) rfl (by first | exact .inl rfl | exact .inr rfl) (by first | exact .inl rfl | exact .inr rfl) (.cons (i := 6) rfl (by first | exact .inl rfl | exact .inr rfl) (by first | exact .inl rfl | exact .inr rfl) .nil)))) (ss_cons (s_set (i := 7) B.ok rfl (by first | exact .inl rfl | exact .inr rfl) (i_call B.ok (by rfl) (B.call 44 d__law_bent rfl rfl) (a_cons (i_v (i := 1) (by rfl) (by first | exact .inl rfl | exact .inr (.inl rfl) | exact .inr (.inr rfl))) (a_cons (i_v (i := 5) (by rfl) (by first | exact .inl rfl | exact .inr (.inl rfl) | exact .inr (.inr rfl))) (a_cons (i_call B.ok (by rfl) (B.call 37 d__law_pick rfl rfl) (a_cons (i_v (i := 0) (by rfl) (by first | exact .inl rfl | exact .inr (.inl rfl) | exact .inr (.inr rfl))) (a_cons (i_v (i := 3) (by rfl) (by first | exact .inl rfl | exact .inr (.inl rfl) | exact .inr (.inr rfl))) a_nil))) a_nil)))) rfl (by first | exact .inl rfl | exact .inr rfl)) (ss_cons (s_if (t_cmp B.ok (i_biB B.ok (b := .repr) rfl (by rfl) Z.f_repr boot_repr (a_cons (i_call B.ok (by rfl) (B.call 12 d_is_writing rfl rfl) (a_cons (i_v (i := 7) (by rfl) (by first | exact .inl rfl | exact .inr (.inl rfl) | exact .inr (.inr rfl))) a_nil)) a_nil)) (i_biB B.ok (b := .repr) rfl (by rfl) Z.f_repr boot_repr (a_cons (i_call B.ok (by rfl) (B.call 43 d__law_is rfl rfl) (a_cons (i_v (i := 7) (by rfl) (by first | exact .inl rfl | exact .inr (.inl rfl) | exact .inr (.inr rfl))) a_nil)) a_nil))) (ss_cons (s_ret i_bl) ss_nil) ss_nil) ss_nil)))) (ss_cons (s_set (i := 3) B.ok rfl (by first | exact .inl rfl | exact .inr rfl) (i_op (i_v (i := 3) (by rfl) (by first | exact .inl rfl | exact .inr (.inl rfl) | exact .inr (.inr rfl))) (i_lst (a_cons (i_lst (a_cons (i_lst (a_cons i_str a_nil)) (a_cons i_str (a_cons i_str a_nil)))) (a_cons (i_tup (a_cons i_dct0 (a_cons i_str (a_cons i_str a_nil)))) (a_cons (i_lst (a_cons i_str (a_cons i_dct0 (a_cons i_str a_nil)))) (a_cons (i_tup (a_cons i_str (a_cons i_dct0 (a_cons i_str a_nil)))) (a_cons (i_tup (a_cons (i_lst a_nil) (a_cons i_str (a_cons i_str a_nil)))) (a_cons (i_tup (a_cons i_str (a_cons i_str (a_cons i_dct0 a_nil)))) (a_cons (i_tup (a_cons (i_lst (a_cons i_str a_nil)) (a_cons i_str (a_cons i_str a_nil)))) a_nil))))))))) rfl (by first | exact .inl rfl | exact .inr rfl)) (ss_cons (s_ret (i_cmp B.ok (i_compI B.ok rfl (it_e (i_v (i := 3) (by rfl) (by first | exact .inl rfl | exact .inr (.inl rfl) | exact .inr (.inr rfl)))) (blkOk_by (N := ["rack", "writing", "pairs", "some", "turn", "way", "part", "value"]) (sc := (defScope (top 59))) (own := [("value", 7)]) (by decide +kernel)) (fun _ _ _ _ _ => (g_n (i := 7) (cok_blk B.ok) rfl (by first | exact .inl rfl | exact .inr rfl) (by first | exact .inl rfl | exact .inr rfl))) (fun _ _ _ _ _ => (t_cmp (cok_blk B.ok) (i_biB (cok_blk B.ok) (b := .repr) rfl (by rfl) Z.f_repr boot_repr (a_cons (i_call (cok_blk B.ok) (by rfl) (call_blk (B.call 12 d_is_writing rfl rfl)) (a_cons (i_v (i := 7) (by rfl) (by first | exact .inl rfl | exact .inr (.inl rfl) | exact .inr (.inr rfl))) a_nil)) a_nil)) (i_biB (cok_blk B.ok) (b := .repr) rfl (by rfl) Z.f_repr boot_repr (a_cons (i_call (cok_blk B.ok) (by rfl) (call_blk (B.call 43 d__law_is rfl rfl)) (a_cons (i_v (i := 7) (by rfl) (by first | exact .inl rfl | exact .inr (.inl rfl) | exact .inr (.inr rfl))) a_nil)) a_nil)))) (fun _ _ _ _ _ => (i_v (i := 7) (by rfl) (by first | exact .inl rfl | exact .inr (.inl rfl) | exact .inr (.inr rfl))))) (i_lst a_nil))) ss_nil))))
theorem ok__law_far_right (Z : Zs K mg) (B : BodyOk (BodyX P w K mg base ["rack", "side", "chain", "turn", "long", "pairs", "ways", "layers", "way", "part"] "_law_far_right" (defScope (top 60)) f cdv A outer s H) Ds 1000000 k) :
    PSs (BodyX P w K mg base ["rack", "side", "chain", "turn", "long", "pairs", "ways", "layers", "way", "part"] "_law_far_right" (defScope (top 60)) f cdv A outer s H) (defBody (top 60)) (tSs K (run (Fns Ds) 1000000 k) 1000000 b__law_far_right) :=
  (ss_cons (s_par2 (i := 1) (j := 2) B.ok rfl rfl (by decide) rfl rfl (a_cons (i_call B.ok (by rfl) (B.call 36 d__law_take rfl rfl) (a_cons (i_v (i := 0) (by rfl) (by first | exact .inl rfl | exact .inr (.inl rfl) | exact .inr (.inr rfl))) (a_cons i_int a_nil))) (a_cons i_str a_nil)) rfl) (ss_cons (s_for B.ok PassesOwn.never (it_rng1 (by rfl) Z.f_range i_int) (g_n (i := 3) B.ok rfl (by first | exact .inl rfl | exact .inr rfl) (by first | exact .inl rfl | exact .inr rfl)) (ss_cons (s_set (i := 2) B.ok rfl (by first | exact .inl rfl | exact .inr rfl) (i_ite (t_cmp B.ok (i_v (i := 1) (by rfl) (by first | exact .inl rfl | exact .inr (.inl rfl) | exact .inr (.inr rfl))) i_int) (i_tup (a_cons i_str (a_cons i_str (a_cons (i_v (i := 2) (by rfl) (by first | exact .inl rfl | exact .inr (.inl rfl) | exact .inr (.inr rfl))) a_nil)))) (i_ite (t_cmp B.ok (i_v (i := 1) (by rfl) (by first | exact .inl rfl | exact .inr (.inl rfl) | exact .inr (.inr rfl))) i_int) (i_tup (a_cons i_str (a_cons (i_v (i := 2) (by rfl) (by first | exact .inl rfl | exact .inr (.inl rfl) | exact .inr (.inr rfl))) (a_cons i_str a_nil)))) (i_tup (a_cons i_str (a_cons i_str (a_cons (i_v (i := 2) (by rfl) (by first | exact .inl rfl | exact .inr (.inl rfl) | exact .inr (.inr rfl))) a_nil)))))) rfl (by first | exact .inl rfl | exact .inr rfl)) ss_nil)) (ss_cons (s_set (i := 4) B.ok rfl (by first | exact .inl rfl | exact .inr rfl) (i_v (i := 2) (by rfl) (by first | exact .inl rfl | exact .inr (.inl rfl) | exact .inr (.inr rfl))) rfl (by first | exact .inl rfl | exact .inr rfl)) (ss_cons (s_for B.ok PassesOwn.never (it_rng1 (by rfl) Z.f_range (i_op i_int (i_call B.ok (by rfl) (B.call 36 d__law_take rfl rfl) (a_cons (i_v (i := 0) (by rfl) (by first | exact .inl rfl | exact .inr (.inl rfl) | exact .inr (.inr rfl))) (a_cons i_int a_nil))))) (g_n (i := 3) B.ok rfl (by first | exact .inl rfl | exact .inr rfl) (by first | exact .inl rfl | exact .inr rfl)) (ss_cons (s_set (i := 4) B.ok rfl (by first | exact .inl rfl | exact .inr rfl) (i_call B.ok (by rfl) (B.call 26 d_put rfl rfl) (a_cons (i_v (i := 4) (by rfl) (by first | exact .inl rfl | exact .inr (.inl rfl) | exact .inr (.inr rfl))) (a_cons i_str (a_cons (i_v (i := 2) (by rfl) (by first | exact .inl rfl | exact .inr (.inl rfl) | exact .inr (.inr rfl))) a_nil)))) rfl (by first | exact .inl rfl | exact .inr rfl)) ss_nil)) (ss_cons (s_set (i := 5) B.ok rfl (by first | exact .inl rfl | exact .inr rfl) (i_call B.ok (by rfl) (B.call 40 d__law_walked rfl rfl) (a_cons (i_v (i := 4) (by rfl) (by first | exact .inl rfl | exact .inr (.inl rfl) | exact .inr (.inr rfl))) a_nil)) rfl (by first | exact .inl rfl | exact .inr rfl)) (ss_cons (s_setLc (i := 6) B.ok rfl rfl (sw_true rfl rfl rfl (by decide +kernel)) rfl (it_e (i_v (i := 5) (by rfl) (by first | exact .inl rfl | exact .inr (.inl rfl) | exact .inr (.inr rfl)))) (blkOk_by (N := ["rack", "side", "chain", "turn", "long", "pairs", "ways", "layers", "way", "part"]) (sc := (defScope (top 60))) (own := [("way", 8), ("part", 9)]) (by decide +kernel)) (fun _ _ _ _ _ => (g_t (cok_blk B.ok) (.cons (i := 8) rfl (by first | exact .inl rfl | exact .inr rfl) (by first | exact .inl rfl | exact .inr rfl) (.cons (i := 9) rfl (by first | exact .inl rfl | exact .inr rfl) (by first | exact .inl rfl | exact .inr rfl) .nil)))) (fun _ _ _ _ _ => (i_v (i := 8) (by rfl) (by first | exact .inl rfl | exact .inr (.inl rfl) | exact .inr (.inr rfl))))) (ss_cons (s_set (i := 7) B.ok rfl (by first | exact .inl rfl | exact .inr rfl) (i_op i_int (i_biB B.ok (b := .maxl) rfl (by rfl) Z.f_max boot_max (a_cons (i_comp B.ok rfl (it_e (i_v (i := 6) (by rfl) (by first | exact .inl rfl | exact .inr (.inl rfl) | exact .inr (.inr rfl)))) (blkOk_by (N := ["rack", "side", "chain", "turn", "long", "pairs", "ways", "layers", "way", "part"]) (sc := (defScope (top 60))) (own := [("way", 8)]) (by decide +kernel)) (fun _ _ _ _ _ => (g_n (i := 8) (cok_blk B.ok) rfl (by first | exact .inl rfl | exact .inr rfl) (by first | exact .inl rfl | exact .inr rfl))) (fun _ _ _ _ _ => (i_biB (cok_blk B.ok) (b := .len) rfl (by rfl) Z.f_len boot_len (a_cons (i_v (i := 8) (by rfl) (by first | exact .inl rfl | exact .inr (.inl rfl) | exact .inr (.inr rfl))) a_nil)))) a_nil))) rfl (by first | exact .inl rfl | exact .inr rfl)) (ss_cons (s_if (t_w (w_or (t_cmp B.ok (i_call B.ok (by rfl) (B.call 12 d_is_writing rfl rfl) (a_cons (i_v (i := 4) (by rfl) (by first | exact .inl rfl | exact .inr (.inl rfl) | exact .inr (.inr rfl))) a_nil)) i_bl) (w_or (t_cmp B.ok (i_biB B.ok (b := .repr) rfl (by rfl) Z.f_repr boot_repr (a_cons (i_call B.ok (by rfl) (B.call 24 d_signs_of rfl rfl) (a_cons (i_v (i := 4) (by rfl) (by first | exact .inl rfl | exact .inr (.inl rfl) | exact .inr (.inr rfl))) a_nil)) a_nil)) (i_biB B.ok (b := .repr) rfl (by rfl) Z.f_repr boot_repr (a_cons (i_biB B.ok (b := .len) rfl (by rfl) Z.f_len boot_len (a_cons (i_v (i := 6) (by rfl) (by first | exact .inl rfl | exact .inr (.inl rfl) | exact .inr (.inr rfl))) a_nil)) a_nil))) (w_or (t_cmp B.ok (i_biB B.ok (b := .repr) rfl (by rfl) Z.f_repr boot_repr (a_cons (i_call B.ok (by rfl) (B.call 25 d_layers_of rfl rfl) (a_cons (i_v (i := 4) (by rfl) (by first | exact .inl rfl | exact .inr (.inl rfl) | exact .inr (.inr rfl))) a_nil)) a_nil)) (i_biB B.ok (b := .repr) rfl (by rfl) Z.f_repr boot_repr (a_cons (i_v (i := 7) (by rfl) (by first | exact .inl rfl | exact .inr (.inl rfl) | exact .inr (.inr rfl))) a_nil))) (w_or1 (t_cmp B.ok (i_call B.ok (by rfl) (B.call 33 d_places_of rfl rfl) (a_cons (i_v (i := 4) (by rfl) (by first | exact .inl rfl | exact .inr (.inl rfl) | exact .inr (.inr rfl))) a_nil)) (i_biT B.ok (b := .tuple) rfl (by rfl) Z.f_tuple boot_tuple (a_cons (i_v (i := 6) (by rfl) (by first | exact .inl rfl | exact .inr (.inl rfl) | exact .inr (.inr rfl))) a_nil)))))))) (ss_cons (s_ret i_bl) ss_nil) ss_nil) (ss_cons (s_if (t_cmp B.ok (i_compI B.ok rfl (it_e (i_op (i_stp (n := 40) (i_v (i := 5) (by rfl) (by first | exact .inl rfl | exact .inr (.inl rfl) | exact .inr (.inr rfl)))) (i_sl (i_v (i := 5) (by rfl) (by first | exact .inl rfl | exact .inr (.inl rfl) | exact .inr (.inr rfl))) (o_some (i_neg i_int)) o_none))) (blkOk_by (N := ["rack", "side", "chain", "turn", "long", "pairs", "ways", "layers", "way", "part"]) (sc := (defScope (top 60))) (own := [("way", 8), ("part", 9)]) (by decide +kernel)) (fun _ _ _ _ _ => (g_t (cok_blk B.ok) (.cons (i := 8) rfl (by first | exact .inl rfl | exact .inr rfl) (by first | exact .inl rfl | exact .inr rfl) (.cons (i := 9) rfl (by first | exact .inl rfl | exact .inr rfl) (by first | exact .inl rfl | exact .inr rfl) .nil)))) (fun _ _ _ _ _ => (t_cmp (cok_blk B.ok) (i_call (cok_blk B.ok) (by rfl) (call_blk (B.call 34 d_part_at rfl rfl)) (a_cons (i_v (i := 4) (by rfl) (by first | exact .inl rfl | exact .inr (.inl rfl) | exact .inr (.inr rfl))) (a_cons (i_v (i := 8) (by rfl) (by first | exact .inl rfl | exact .inr (.inl rfl) | exact .inr (.inr rfl))) a_nil))) (i_v (i := 9) (by rfl) (by first | exact .inl rfl | exact .inr (.inl rfl) | exact .inr (.inr rfl))))) (fun _ _ _ _ _ => (i_v (i := 8) (by rfl) (by first | exact .inl rfl | exact .inr (.inl rfl) | exact .inr (.inr rfl))))) (i_lst a_nil)) (ss_cons (s_ret i_bl) ss_nil) ss_nil) (ss_cons (s_ret (i_and (i_cmp B.ok (i_op (i_v (i := 7) (by rfl) (by first | exact .inl rfl | exact .inr (.inl rfl) | exact .inr (.inr rfl))) i_int) i_int) (i_and (i_cmp B.ok (i_v (i := 7) (by rfl) (by first | exact .inl rfl | exact .inr (.inl rfl) | exact .inr (.inr rfl))) i_int) (i_one (i_cmp B.ok (i_call B.ok (by rfl) (B.call 27 d_writing_text rfl rfl) (a_cons (i_v (i := 4) (by rfl) (by first | exact .inl rfl | exact .inr (.inl rfl) | exact .inr (.inr rfl))) a_nil)) (i_me mf_join i_str (a_cons (i_call B.ok (by rfl) (B.call 41 d__law_items rfl rfl) (a_cons (i_v (i := 4) (by rfl) (by first | exact .inl rfl | exact .inr (.inl rfl) | exact .inr (.inr rfl))) a_nil)) a_nil))))))) ss_nil))))))))))
theorem ok_law (Z : Zs K mg) (B : BodyOk (BodyX P w K mg base ["script", "rack", "lap", "way", "names", "writing"] "law" (defScope (top 61)) f cdv A outer s H) Ds 1000000 k) :
    PSs (BodyX P w K mg base ["script", "rack", "lap", "way", "names", "writing"] "law" (defScope (top 61)) f cdv A outer s H) (defBody (top 61)) (tSs K (run (Fns Ds) 1000000 k) 1000000 b_law) :=
  (ss_cons (s_set (i := 1) B.ok rfl (by first | exact .inl rfl | exact .inr rfl) (i_call B.ok (by rfl) (B.call 35 d__law_rack rfl rfl) (a_cons (i_v (i := 0) (by rfl) (by first | exact .inl rfl | exact .inr (.inl rfl) | exact .inr (.inr rfl))) a_nil)) rfl (by first | exact .inl rfl | exact .inr rfl)) (ss_cons (s_for B.ok PassesOwn.never (it_rng1 (by rfl) Z.f_range i_int) (g_n (i := 2) B.ok rfl (by first | exact .inl rfl | exact .inr rfl) (by first | exact .inl rfl | exact .inr rfl)) (ss_cons (s_set (i := 4) B.ok rfl (by first | exact .inl rfl | exact .inr rfl) (i_call B.ok (by rfl) (B.call 37 d__law_pick rfl rfl) (a_cons (i_v (i := 1) (by rfl) (by first | exact .inl rfl | exact .inr (.inl rfl) | exact .inr (.inr rfl))) (a_cons (i_lst (a_cons (i_lst (a_cons i_str (a_cons i_str a_nil))) (a_cons (i_lst (a_cons i_str (a_cons i_str (a_cons i_str a_nil)))) (a_cons (i_lst (a_cons i_str (a_cons i_str (a_cons i_str a_nil)))) (a_cons (i_lst (a_cons i_str (a_cons i_str a_nil))) a_nil))))) a_nil))) rfl (by first | exact .inl rfl | exact .inr rfl)) (ss_cons (s_set (i := 5) B.ok rfl (by first | exact .inl rfl | exact .inr rfl) (i_call B.ok (by rfl) (B.call 38 d__law_drawn rfl rfl) (a_cons (i_v (i := 1) (by rfl) (by first | exact .inl rfl | exact .inr (.inl rfl) | exact .inr (.inr rfl))) (a_cons (i_op i_int (i_call B.ok (by rfl) (B.call 36 d__law_take rfl rfl) (a_cons (i_v (i := 1) (by rfl) (by first | exact .inl rfl | exact .inr (.inl rfl) | exact .inr (.inr rfl))) (a_cons i_int a_nil)))) (a_cons (i_v (i := 4) (by rfl) (by first | exact .inl rfl | exact .inr (.inl rfl) | exact .inr (.inr rfl))) a_nil)))) rfl (by first | exact .inl rfl | exact .inr rfl)) (ss_cons (s_if (t_w (w_or (t_not (t_e (i_call B.ok (by rfl) (B.call 46 d__law_told_right rfl rfl) (a_cons (i_v (i := 1) (by rfl) (by first | exact .inl rfl | exact .inr (.inl rfl) | exact .inr (.inr rfl))) (a_cons (i_v (i := 5) (by rfl) (by first | exact .inl rfl | exact .inr (.inl rfl) | exact .inr (.inr rfl))) a_nil))))) (w_or1 (t_not (t_e (i_call B.ok (by rfl) (B.call 47 d__law_looked_right rfl rfl) (a_cons (i_v (i := 1) (by rfl) (by first | exact .inl rfl | exact .inr (.inl rfl) | exact .inr (.inr rfl))) (a_cons (i_v (i := 5) (by rfl) (by first | exact .inl rfl | exact .inr (.inl rfl) | exact .inr (.inr rfl))) a_nil)))))))) (ss_cons (s_ret i_bl) ss_nil) ss_nil) ss_nil)))) (ss_cons (s_set (i := 3) B.ok rfl (by first | exact .inl rfl | exact .inr rfl) (i_call B.ok (by rfl) (B.call 36 d__law_take rfl rfl) (a_cons (i_v (i := 1) (by rfl) (by first | exact .inl rfl | exact .inr (.inl rfl) | exact .inr (.inr rfl))) (a_cons i_int a_nil))) rfl (by first | exact .inl rfl | exact .inr rfl)) (ss_cons (s_if (t_cmp B.ok (i_v (i := 3) (by rfl) (by first | exact .inl rfl | exact .inr (.inl rfl) | exact .inr (.inr rfl))) i_int) (ss_cons (s_ret (i_call B.ok (by rfl) (B.call 46 d__law_told_right rfl rfl) (a_cons (i_v (i := 1) (by rfl) (by first | exact .inl rfl | exact .inr (.inl rfl) | exact .inr (.inr rfl))) (a_cons (i_call B.ok (by rfl) (B.call 38 d__law_drawn rfl rfl) (a_cons (i_v (i := 1) (by rfl) (by first | exact .inl rfl | exact .inr (.inl rfl) | exact .inr (.inr rfl))) (a_cons (i_op i_int (i_call B.ok (by rfl) (B.call 36 d__law_take rfl rfl) (a_cons (i_v (i := 1) (by rfl) (by first | exact .inl rfl | exact .inr (.inl rfl) | exact .inr (.inr rfl))) (a_cons i_int a_nil)))) (a_cons (i_lst (a_cons i_str (a_cons i_str (a_cons i_str a_nil)))) a_nil)))) a_nil)))) ss_nil) ss_nil) (ss_cons (s_ret (i_or (i_cmp B.ok (i_v (i := 3) (by rfl) (by first | exact .inl rfl | exact .inr (.inl rfl) | exact .inr (.inr rfl))) i_int) (i_one (i_call B.ok (by rfl) (B.call 48 d__law_far_right rfl rfl) (a_cons (i_v (i := 1) (by rfl) (by first | exact .inl rfl | exact .inr (.inl rfl) | exact .inr (.inr rfl))) a_nil))))) ss_nil)))))
end
theorem bodies {P : Program} {w : World} {K : PySem.W.Frag} {mg : Str → Option Value} {base : Heap} (Z : Zs K mg) : ∀ (i : Nat) (d : DefI), Ds[i]? = some d → ∀ k f cdv A outer s H, BodyOk (BodyX P w K mg base d.N d.qual d.scope f cdv A outer s H) Ds 1000000 k →
    PSs (BodyX P w K mg base d.N d.qual d.scope f cdv A outer s H) d.body (tSs K (run (Fns Ds) 1000000 k) 1000000 d.fn.body)
  | 0, _, rfl => fun _ _ _ _ _ _ _ B => ok_is_integer Z B
  | 1, _, rfl => fun _ _ _ _ _ _ _ B => ok_is_within Z B
  | 2, _, rfl => fun _ _ _ _ _ _ _ B => ok_is_name Z B
  | 3, _, rfl => fun _ _ _ _ _ _ _ B => ok_need_name Z B
  | 4, _, rfl => fun _ _ _ _ _ _ _ B => ok_as_tuples Z B
  | 5, _, rfl => fun _ _ _ _ _ _ _ B => ok_Scan_init Z B
  | 6, _, rfl => fun _ _ _ _ _ _ _ B => ok_Scan_is_over Z B
  | 7, _, rfl => fun _ _ _ _ _ _ _ B => ok_Scan_seen Z B
  | 8, _, rfl => fun _ _ _ _ _ _ _ B => ok_Scan_refuse Z B
  | 9, _, rfl => fun _ _ _ _ _ _ _ B => ok_Scan_refuse_last Z B
  | 10, _, rfl => fun _ _ _ _ _ _ _ B => ok_Scan_take Z B
  | 11, _, rfl => fun _ _ _ _ _ _ _ B => ok_Scan_finish Z B
  | 12, _, rfl => fun _ _ _ _ _ _ _ B => ok_is_writing Z B
  | 13, _, rfl => fun _ _ _ _ _ _ _ B => ok_need_writing Z B
  | 14, _, rfl => fun _ _ _ _ _ _ _ B => ok_signs_in Z B
  | 15, _, rfl => fun _ _ _ _ _ _ _ B => ok_layers_in Z B
  | 16, _, rfl => fun _ _ _ _ _ _ _ B => ok_gather_free Z B
  | 17, _, rfl => fun _ _ _ _ _ _ _ B => ok_free_in Z B
  | 18, _, rfl => fun _ _ _ _ _ _ _ B => ok_names_in Z B
  | 19, _, rfl => fun _ _ _ _ _ _ _ B => ok_fresh_name Z B
  | 20, _, rfl => fun _ _ _ _ _ _ _ B => ok_put_in Z B
  | 21, _, rfl => fun _ _ _ _ _ _ _ B => ok_put_for Z B
  | 22, _, rfl => fun _ _ _ _ _ _ _ B => ok_take_writing Z B
  | 23, _, rfl => fun _ _ _ _ _ _ _ B => ok_items_of Z B
  | 24, _, rfl => fun _ _ _ _ _ _ _ B => ok_signs_of Z B
  | 25, _, rfl => fun _ _ _ _ _ _ _ B => ok_layers_of Z B
  | 26, _, rfl => fun _ _ _ _ _ _ _ B => ok_put Z B
  | 27, _, rfl => fun _ _ _ _ _ _ _ B => ok_writing_text Z B
  | 28, _, rfl => fun _ _ _ _ _ _ _ B => ok_read_writing Z B
  | 29, _, rfl => fun _ _ _ _ _ _ _ B => ok_places_in Z B
  | 30, _, rfl => fun _ _ _ _ _ _ _ B => ok_part_in Z B
  | 31, _, rfl => fun _ _ _ _ _ _ _ B => ok_is_place Z B
  | 32, _, rfl => fun _ _ _ _ _ _ _ B => ok_need_place Z B
  | 33, _, rfl => fun _ _ _ _ _ _ _ B => ok_places_of Z B
  | 34, _, rfl => fun _ _ _ _ _ _ _ B => ok_part_at Z B
  | 35, _, rfl => fun _ _ _ _ _ _ _ B => ok__law_rack Z B
  | 36, _, rfl => fun _ _ _ _ _ _ _ B => ok__law_take Z B
  | 37, _, rfl => fun _ _ _ _ _ _ _ B => ok__law_pick Z B
  | 38, _, rfl => fun _ _ _ _ _ _ _ B => ok__law_drawn Z B
  | 39, _, rfl => fun _ _ _ _ _ _ _ B => ok__law_listed Z B
  | 40, _, rfl => fun _ _ _ _ _ _ _ B => ok__law_walked Z B
  | 41, _, rfl => fun _ _ _ _ _ _ _ B => ok__law_items Z B
  | 42, _, rfl => fun _ _ _ _ _ _ _ B => ok__law_is_name Z B
  | 43, _, rfl => fun _ _ _ _ _ _ _ B => ok__law_is Z B
  | 44, _, rfl => fun _ _ _ _ _ _ _ B => ok__law_bent Z B
  | 45, _, rfl => fun _ _ _ _ _ _ _ B => ok__law_strange Z B
  | 46, _, rfl => fun _ _ _ _ _ _ _ B => ok__law_told_right Z B
  | 47, _, rfl => fun _ _ _ _ _ _ _ B => ok__law_looked_right Z B
  | 48, _, rfl => fun _ _ _ _ _ _ _ B => ok__law_far_right Z B
  | 49, _, rfl => fun _ _ _ _ _ _ _ B => ok_law Z B
  | n + 50, _, h => by simp [Ds] at h
theorem scopes : ∀ (i : Nat) (d : DefI), Ds[i]? = some d → FnScope d.N d.ps d.scope ∧ d.fn.ar = d.ps.length ∧ d.fn.sl = d.N.length
  | 0, _, rfl => ⟨⟨rfl, rfl, rfl, by decide +kernel, rfl, by decide +kernel, by decide +kernel⟩, rfl, rfl⟩
  | 1, _, rfl => ⟨⟨rfl, rfl, rfl, by decide +kernel, rfl, by decide +kernel, by decide +kernel⟩, rfl, rfl⟩
  | 2, _, rfl => ⟨⟨rfl, rfl, rfl, by decide +kernel, rfl, by decide +kernel, by decide +kernel⟩, rfl, rfl⟩
  | 3, _, rfl => ⟨⟨rfl, rfl, rfl, by decide +kernel, rfl, by decide +kernel, by decide +kernel⟩, rfl, rfl⟩
  | 4, _, rfl => ⟨⟨rfl, rfl, rfl, by decide +kernel, rfl, by decide +kernel, by decide +kernel⟩, rfl, rfl⟩
  | 5, _, rfl => ⟨⟨rfl, rfl, rfl, by decide +kernel, rfl, by decide +kernel, by decide +kernel⟩, rfl, rfl⟩
  | 6, _, rfl => ⟨⟨rfl, rfl, rfl, by decide +kernel, rfl, by decide +kernel, by decide +kernel⟩, rfl, rfl⟩
  | 7, _, rfl => ⟨⟨rfl, rfl, rfl, by decide +kernel, rfl, by decide +kernel, by decide +kernel⟩, rfl, rfl⟩
  | 8, _, rfl => ⟨⟨rfl, rfl, rfl, by decide +kernel, rfl, by decide +kernel, by decide +kernel⟩, rfl, rfl⟩
  | 9, _, rfl => ⟨⟨rfl, rfl, rfl, by decide +kernel, rfl, by decide +kernel, by decide +kernel⟩, rfl, rfl⟩
  | 10, _, rfl => ⟨⟨rfl, rfl, rfl, by decide +kernel, rfl, by decide +kernel, by decide +kernel⟩, rfl, rfl⟩
  | 11, _, rfl => ⟨⟨rfl, rfl, rfl, by decide +kernel, rfl, by decide +kernel, by decide +kernel⟩, rfl, rfl⟩
  | 12, _, rfl => ⟨⟨rfl, rfl, rfl, by decide +kernel, rfl, by decide +kernel, by decide +kernel⟩, rfl, rfl⟩
  | 13, _, rfl => ⟨⟨rfl, rfl, rfl, by decide +kernel, rfl, by decide +kernel, by decide +kernel⟩, rfl, rfl⟩
  | 14, _, rfl => ⟨⟨rfl, rfl, rfl, by decide +kernel, rfl, by decide +kernel, by decide +kernel⟩, rfl, rfl⟩
  | 15, _, rfl => ⟨⟨rfl, rfl, rfl, by decide +kernel, rfl, by decide +kernel, by decide +kernel⟩, rfl, rfl⟩
  | 16, _, rfl => ⟨⟨rfl, rfl, rfl, by decide +kernel, rfl, by decide +kernel, by decide +kernel⟩, rfl, rfl⟩
  | 17, _, rfl => ⟨⟨rfl, rfl, rfl, by decide +kernel, rfl, by decide +kernel, by decide +kernel⟩, rfl, rfl⟩
  | 18, _, rfl => ⟨⟨rfl, rfl, rfl, by decide +kernel, rfl, by decide +kernel, by decide +kernel⟩, rfl, rfl⟩
  | 19, _, rfl => ⟨⟨rfl, rfl, rfl, by decide +kernel, rfl, by decide +kernel, by decide +kernel⟩, rfl, rfl⟩
  | 20, _, rfl => ⟨⟨rfl, rfl, rfl, by decide +kernel, rfl, by decide +kernel, by decide +kernel⟩, rfl, rfl⟩
  | 21, _, rfl => ⟨⟨rfl, rfl, rfl, by decide +kernel, rfl, by decide +kernel, by decide +kernel⟩, rfl, rfl⟩
  | 22, _, rfl => ⟨⟨rfl, rfl, rfl, by decide +kernel, rfl, by decide +kernel, by decide +kernel⟩, rfl, rfl⟩
  | 23, _, rfl => ⟨⟨rfl, rfl, rfl, by decide +kernel, rfl, by decide +kernel, by decide +kernel⟩, rfl, rfl⟩
  | 24, _, rfl => ⟨⟨rfl, rfl, rfl, by decide +kernel, rfl, by decide +kernel, by decide +kernel⟩, rfl, rfl⟩
  | 25, _, rfl => ⟨⟨rfl, rfl, rfl, by decide +kernel, rfl, by decide +kernel, by decide +kernel⟩, rfl, rfl⟩
  | 26, _, rfl => ⟨⟨rfl, rfl, rfl, by decide +kernel, rfl, by decide +kernel, by decide +kernel⟩, rfl, rfl⟩
  | 27, _, rfl => ⟨⟨rfl, rfl, rfl, by decide +kernel, rfl, by decide +kernel, by decide +kernel⟩, rfl, rfl⟩
  | 28, _, rfl => ⟨⟨rfl, rfl, rfl, by decide +kernel, rfl, by decide +kernel, by decide +kernel⟩, rfl, rfl⟩
  | 29, _, rfl => ⟨⟨rfl, rfl, rfl, by decide +kernel, rfl, by decide +kernel, by decide +kernel⟩, rfl, rfl⟩
  | 30, _, rfl => ⟨⟨rfl, rfl, rfl, by decide +kernel, rfl, by decide +kernel, by decide +kernel⟩, rfl, rfl⟩
  | 31, _, rfl => ⟨⟨rfl, rfl, rfl, by decide +kernel, rfl, by decide +kernel, by decide +kernel⟩, rfl, rfl⟩
  | 32, _, rfl => ⟨⟨rfl, rfl, rfl, by decide +kernel, rfl, by decide +kernel, by decide +kernel⟩, rfl, rfl⟩
  | 33, _, rfl => ⟨⟨rfl, rfl, rfl, by decide +kernel, rfl, by decide +kernel, by decide +kernel⟩, rfl, rfl⟩
  | 34, _, rfl => ⟨⟨rfl, rfl, rfl, by decide +kernel, rfl, by decide +kernel, by decide +kernel⟩, rfl, rfl⟩
  | 35, _, rfl => ⟨⟨rfl, rfl, rfl, by decide +kernel, rfl, by decide +kernel, by decide +kernel⟩, rfl, rfl⟩
  | 36, _, rfl => ⟨⟨rfl, rfl, rfl, by decide +kernel, rfl, by decide +kernel, by decide +kernel⟩, rfl, rfl⟩
  | 37, _, rfl => ⟨⟨rfl, rfl, rfl, by decide +kernel, rfl, by decide +kernel, by decide +kernel⟩, rfl, rfl⟩
  | 38, _, rfl => ⟨⟨rfl, rfl, rfl, by decide +kernel, rfl, by decide +kernel, by decide +kernel⟩, rfl, rfl⟩
  | 39, _, rfl => ⟨⟨rfl, rfl, rfl, by decide +kernel, rfl, by decide +kernel, by decide +kernel⟩, rfl, rfl⟩
  | 40, _, rfl => ⟨⟨rfl, rfl, rfl, by decide +kernel, rfl, by decide +kernel, by decide +kernel⟩, rfl, rfl⟩
  | 41, _, rfl => ⟨⟨rfl, rfl, rfl, by decide +kernel, rfl, by decide +kernel, by decide +kernel⟩, rfl, rfl⟩
  | 42, _, rfl => ⟨⟨rfl, rfl, rfl, by decide +kernel, rfl, by decide +kernel, by decide +kernel⟩, rfl, rfl⟩
  | 43, _, rfl => ⟨⟨rfl, rfl, rfl, by decide +kernel, rfl, by decide +kernel, by decide +kernel⟩, rfl, rfl⟩
  | 44, _, rfl => ⟨⟨rfl, rfl, rfl, by decide +kernel, rfl, by decide +kernel, by decide +kernel⟩, rfl, rfl⟩
  | 45, _, rfl => ⟨⟨rfl, rfl, rfl, by decide +kernel, rfl, by decide +kernel, by decide +kernel⟩, rfl, rfl⟩
  | 46, _, rfl => ⟨⟨rfl, rfl, rfl, by decide +kernel, rfl, by decide +kernel, by decide +kernel⟩, rfl, rfl⟩
  | 47, _, rfl => ⟨⟨rfl, rfl, rfl, by decide +kernel, rfl, by decide +kernel, by decide +kernel⟩, rfl, rfl⟩
  | 48, _, rfl => ⟨⟨rfl, rfl, rfl, by decide +kernel, rfl, by decide +kernel, by decide +kernel⟩, rfl, rfl⟩
  | 49, _, rfl => ⟨⟨rfl, rfl, rfl, by decide +kernel, rfl, by decide +kernel, by decide +kernel⟩, rfl, rfl⟩
  | n + 50, _, h => by simp [Ds] at h
end Lk03

set_option Elab.async false
set_option linter.all false
set_option maxRecDepth 100000
set_option maxHeartbeats 4000000
namespace Lk03
open PySem PySem.Spec PyProof.Rows L2 Iv
theorem binds : ∀ (i : Nat) (d : DefI), Ds[i]? = some d → BindN d
  | 0, _, rfl => fun _ _ _ _ _ _ us h => match us, h with | [_], _ => rfl
  | 1, _, rfl => fun _ _ _ _ _ _ us h => match us, h with | [_, _, _], _ => rfl
  | 2, _, rfl => fun _ _ _ _ _ _ us h => match us, h with | [_], _ => rfl
  | 3, _, rfl => fun _ _ _ _ _ _ us h => match us, h with | [_], _ => rfl
  | 4, _, rfl => fun _ _ _ _ _ _ us h => match us, h with | [_], _ => rfl
  | 5, _, rfl => fun _ _ _ _ _ _ us h => match us, h with | [_, _], _ => rfl
  | 6, _, rfl => fun _ _ _ _ _ _ us h => match us, h with | [_], _ => rfl
  | 7, _, rfl => fun _ _ _ _ _ _ us h => match us, h with | [_], _ => rfl
  | 8, _, rfl => fun _ _ _ _ _ _ us h => match us, h with | [_], _ => rfl
  | 9, _, rfl => fun _ _ _ _ _ _ us h => match us, h with | [_], _ => rfl
  | 10, _, rfl => fun _ _ _ _ _ _ us h => match us, h with | [_], _ => rfl
  | 11, _, rfl => fun _ _ _ _ _ _ us h => match us, h with | [_], _ => rfl
  | 12, _, rfl => fun _ _ _ _ _ _ us h => match us, h with | [_], _ => rfl
  | 13, _, rfl => fun _ _ _ _ _ _ us h => match us, h with | [_, _], _ => rfl
  | 14, _, rfl => fun _ _ _ _ _ _ us h => match us, h with | [_], _ => rfl
  | 15, _, rfl => fun _ _ _ _ _ _ us h => match us, h with | [_], _ => rfl
  | 16, _, rfl => fun _ _ _ _ _ _ us h => match us, h with | [_, _, _], _ => rfl
  | 17, _, rfl => fun _ _ _ _ _ _ us h => match us, h with | [_], _ => rfl
  | 18, _, rfl => fun _ _ _ _ _ _ us h => match us, h with | [_], _ => rfl
  | 19, _, rfl => fun _ _ _ _ _ _ us h => match us, h with | [_, _], _ => rfl
  | 20, _, rfl => fun _ _ _ _ _ _ us h => match us, h with | [_, _, _, _], _ => rfl
  | 21, _, rfl => fun _ _ _ _ _ _ us h => match us, h with | [_, _, _], _ => rfl
  | 22, _, rfl => fun _ _ _ _ _ _ us h => match us, h with | [_], _ => rfl
  | 23, _, rfl => fun _ _ _ _ _ _ us h => match us, h with | [_], _ => rfl
  | 24, _, rfl => fun _ _ _ _ _ _ us h => match us, h with | [_], _ => rfl
  | 25, _, rfl => fun _ _ _ _ _ _ us h => match us, h with | [_], _ => rfl
  | 26, _, rfl => fun _ _ _ _ _ _ us h => match us, h with | [_, _, _], _ => rfl
  | 27, _, rfl => fun _ _ _ _ _ _ us h => match us, h with | [_], _ => rfl
  | 28, _, rfl => fun _ _ _ _ _ _ us h => match us, h with | [_], _ => rfl
  | 29, _, rfl => fun _ _ _ _ _ _ us h => match us, h with | [_], _ => rfl
  | 30, _, rfl => fun _ _ _ _ _ _ us h => match us, h with | [_, _], _ => rfl
  | 31, _, rfl => fun _ _ _ _ _ _ us h => match us, h with | [_, _], _ => rfl
  | 32, _, rfl => fun _ _ _ _ _ _ us h => match us, h with | [_, _], _ => rfl
  | 33, _, rfl => fun _ _ _ _ _ _ us h => match us, h with | [_], _ => rfl
  | 34, _, rfl => fun _ _ _ _ _ _ us h => match us, h with | [_, _], _ => rfl
  | 35, _, rfl => fun _ _ _ _ _ _ us h => match us, h with | [_], _ => rfl
  | 36, _, rfl => fun _ _ _ _ _ _ us h => match us, h with | [_, _], _ => rfl
  | 37, _, rfl => fun _ _ _ _ _ _ us h => match us, h with | [_, _], _ => rfl
  | 38, _, rfl => fun _ _ _ _ _ _ us h => match us, h with | [_, _, _], _ => rfl
  | 39, _, rfl => fun _ _ _ _ _ _ us h => match us, h with | [_], _ => rfl
  | 40, _, rfl => fun _ _ _ _ _ _ us h => match us, h with | [_], _ => rfl
  | 41, _, rfl => fun _ _ _ _ _ _ us h => match us, h with | [_], _ => rfl
  | 42, _, rfl => fun _ _ _ _ _ _ us h => match us, h with | [_], _ => rfl
  | 43, _, rfl => fun _ _ _ _ _ _ us h => match us, h with | [_], _ => rfl
  | 44, _, rfl => fun _ _ _ _ _ _ us h => match us, h with | [_, _, _], _ => rfl
  | 45, _, rfl => fun _ _ _ _ _ _ us h => match us, h with | [], _ => rfl
  | 46, _, rfl => fun _ _ _ _ _ _ us h => match us, h with | [_, _], _ => rfl
  | 47, _, rfl => fun _ _ _ _ _ _ us h => match us, h with | [_, _], _ => rfl
  | 48, _, rfl => fun _ _ _ _ _ _ us h => match us, h with | [_], _ => rfl
  | 49, _, rfl => fun _ _ _ _ _ _ us h => match us, h with | [_], _ => rfl
  | n + 50, _, h => by simp [Ds] at h
def fa : List He.Fa := [.glo "is_integer", .glo "is_within", .glo "is_name", .glo "need_name", .glo "as_tuples", .glo "Scan", .mkr "Scan", .cls "Scan", .meth "Scan" "is_over", .meth "Scan" "seen", .meth "Scan" "refuse", .meth "Scan" "refuse_last", .meth "Scan" "take", .meth "Scan" "finish", .glo "is_writing", .glo "need_writing", .glo "signs_in", .glo "layers_in", .glo "gather_free", .glo "free_in", .glo "names_in", .glo "fresh_name", .glo "put_in", .glo "put_for", .glo "take_writing", .glo "items_of", .glo "signs_of", .glo "layers_of", .glo "put", .glo "writing_text", .glo "read_writing", .glo "places_in", .glo "part_in", .glo "is_place", .glo "need_place", .glo "places_of", .glo "part_at", .glo "_law_rack", .glo "_law_take", .glo "_law_pick", .glo "_law_drawn", .glo "_law_listed", .glo "_law_walked", .glo "_law_items", .glo "_law_is_name", .glo "_law_is", .glo "_law_bent", .glo "_law_strange", .glo "_law_told_right", .glo "_law_looked_right", .glo "_law_far_right", .glo "law", .noat "Scan" "items_left", .noat "Scan" "spot", .free "abs", .free "all", .free "bool", .free "int", .free "isinstance", .free "len", .free "list", .free "max", .free "range", .free "repr", .free "sorted", .free "str", .free "tuple"]
def exK (K : PySem.W.Frag) : Bool := true && gbx K "DIGITS" (.str "0123456789") && gbx K "LETTERS" (.str "abcdefghijklmnopqrstuvwxyz") && gbx K "MOST_NAME" (.int 12) && gbx K "OF" (.str "of") && gbx K "TO" (.str "to") && gbx K "WORDS" (.tup [(.str "of"), (.str "to")])
abbrev Rw : PySem.W.OpenLaw := PySem.Challenge.rw_timesagain_k03_signs_layers_places
abbrev R : PySem.W.OpenRow := PySem.W.OpenLaw.row Rw
abbrev fnD : List He.DefD := Ds.map DefI.he
abbrev hk : PySem.W.Hook := He.hookX 4 fa fnD [] [] exK
def ob (s : PySem.W.SharedT) : He.AlX := He.obsX 4 fa fnD [] [] exK (HandSHeadRun.getT s)
theorem ob_eq (s : PySem.W.SharedT) : ob s = hk.obs s.abs := He.obsX_eq (HandSHeadRun.getT_eq s)
def loose : List PySem.Str := (["AgainError", "BadWriting", "Missing", "NoPlace", "NoName", "BadText", "LETTERS", "DIGITS", "WORDS", "MOST_NAME", "is_integer", "is_within", "is_name", "need_name", "as_tuples", "Scan", "OF", "TO", "is_writing", "need_writing", "signs_in", "layers_in", "gather_free", "free_in", "names_in", "fresh_name", "put_in", "put_for", "take_writing", "items_of"] : List PySem.Str) ++ (["signs_of", "layers_of", "put", "writing_text", "read_writing", "places_in", "part_in", "is_place", "need_place", "places_of", "part_at", "_law_rack", "_law_take", "_law_pick", "_law_drawn", "_law_listed", "_law_walked", "_law_items", "_law_is_name", "_law_is", "_law_bent", "_law_strange", "_law_told_right", "_law_looked_right", "_law_far_right"] : List PySem.Str)
theorem run_top (w : World) : HandSHeadRun.RunEq R (PySem.W.view R.prog [61]) hk ob 8000 loose w := by
  intro os
  kernel_rfl
theorem zs {K : PySem.W.Frag} {h : Heap} {w : World} {mg : Str → Option Value} (X : K.In h) (G : h.Ns mainGlobals mg) (c : He.SaysX fa fnD [] [] exK w h K) : Zs K mg := by
  have e : exK K = true := c.more
  simp only [exK, Bool.and_eq_true, Bool.true_and] at e
  obtain ⟨⟨⟨⟨⟨e0, e1⟩, e2⟩, e3⟩, e4⟩, e5⟩ := e
  exact ⟨glob_of X G e0, glob_of X G e1, glob_of X G e2, glob_of X G e3, glob_of X G e4, glob_of X G e5, He.free_ok X G (He.SaysD.facts c.t.d (f := .free "abs") (by simp [fa])), He.free_ok X G (He.SaysD.facts c.t.d (f := .free "all") (by simp [fa])), He.free_ok X G (He.SaysD.facts c.t.d (f := .free "bool") (by simp [fa])), He.free_ok X G (He.SaysD.facts c.t.d (f := .free "int") (by simp [fa])), He.free_ok X G (He.SaysD.facts c.t.d (f := .free "isinstance") (by simp [fa])), He.free_ok X G (He.SaysD.facts c.t.d (f := .free "len") (by simp [fa])), He.free_ok X G (He.SaysD.facts c.t.d (f := .free "list") (by simp [fa])), He.free_ok X G (He.SaysD.facts c.t.d (f := .free "max") (by simp [fa])), He.free_ok X G (He.SaysD.facts c.t.d (f := .free "range") (by simp [fa])), He.free_ok X G (He.SaysD.facts c.t.d (f := .free "repr") (by simp [fa])), He.free_ok X G (He.SaysD.facts c.t.d (f := .free "sorted") (by simp [fa])), He.free_ok X G (He.SaysD.facts c.t.d (f := .free "str") (by simp [fa])), He.free_ok X G (He.SaysD.facts c.t.d (f := .free "tuple") (by simp [fa])), He.cls_ok (He.SaysD.facts c.t.d (f := .cls "Scan") (by simp [fa])), He.noat_ok (He.SaysD.facts c.t.d (f := .noat "Scan" "items_left") (by simp [fa])), He.noat_ok (He.SaysD.facts c.t.d (f := .noat "Scan" "spot") (by simp [fa]))⟩
theorem holds_of (hrun : ∀ ns : List Int, ns.length ≤ 63 → ∃ S', run (Fns Ds) 1000000 231 49 [.lst (ns.map D.int)] [] = some (.bl true, S')) : Rw.Holds := by
  w_on; o_law
  refine HandSHeadRun.head_any (r := R) (q := PySem.W.view R.prog [61]) (H := hk) (ob := ob) (M := 8000) (loose := loose) (d := HandSHeadRun.topDef R.prog 61) (kwd := []) ob_eq
    (by kernel_rfl) (fun s => by kernel_rfl) run_top (by kernel_rfl) (by kernel_rfl) (by kernel_rfl) (by rfl) (by first | assumption | decide +kernel) (by decide +kernel) ⟨rfl, rfl, rfl, rfl, rfl, by decide +kernel⟩ ?hw ?hc
  case hw => w_witness2
  case hc =>
    refine walk_I (l := Rw) (n := 63) (k := 231) (fi := 49) (x := "script") (F := run (Fns Ds) 1000000 231) rfl (by decide) (by kernel_rfl) ⟨rfl, by decide, by decide⟩ ?F hrun
    intro w mg f h Y G hmg0
    obtain ⟨K, KX, c⟩ := Y
    have hmg : mg ("law" : PySem.Str) = some (.ref f) := by
      have e : (HandSHeadRun.topDef R.prog 61).name = ("law" : PySem.Str) := by kernel_rfl
      rw [← e]
      exact hmg0
    have T : TopOk K mg Ds := topOk_of KX G c (fa_all (by decide +kernel)) binds scopes
    obtain ⟨fd, rfl, F, hb⟩ := law_fd (i := 49) T rfl rfl rfl (binds 49 _ rfl) hmg
    exact ⟨K, fd, KX, hb, fun base _ _ => all_fnI (base := base) T (bodies (zs KX G c)) 231 231 (Nat.le_refl _) 49 d_law fd rfl F⟩
end Lk03

set_option Elab.async false
set_option linter.all false
set_option maxRecDepth 100000
set_option maxHeartbeats 4000000
namespace Iv
open PySem
/-- the part at a place: false for the first way down, true for the second one -/
def Wr.at? : List Bool → Wr → Option Wr
  | [], W => some W
  | _ :: _, .nm _ => none
  | c :: p, .of _ b => if c then none else Wr.at? p b
  | c :: p, .to a b => if c then Wr.at? p b else Wr.at? p a
def Wr.put : List Bool → Wr → Wr → Wr
  | [], _, P => P
  | _ :: _, .nm x, _ => .nm x
  | _ :: p, .of x b, P => .of x (Wr.put p b P)
  | c :: p, .to a b, P => if c then .to a (Wr.put p b P) else .to (Wr.put p a P) b
def Wr.pre : Wr → List (List Bool)
  | .nm _ => [[]]
  | .of _ b => [] :: b.pre.map (List.cons false)
  | .to a b => [] :: (a.pre.map (List.cons false) ++ b.pre.map (List.cons true))
/-- the places and parts, those below a way -/
def Wr.wk (q : List Bool) : Wr → List (List Bool × Wr)
  | .nm x => [(q, .nm x)]
  | .of x b => (q, .of x b) :: Wr.wk (q ++ [false]) b
  | .to a b => (q, .to a b) :: (Wr.wk (q ++ [false]) a ++ Wr.wk (q ++ [true]) b)
theorem at_put : ∀ (p : List Bool) (W V P : Wr), W.at? p = some V → (W.put p P).at? p = some P
  | [], _, _, _, _ => rfl
  | c :: p, .nm _, _, _, h => by cases h
  | c :: p, .of x b, V, P, h => by
    cases c
    · exact at_put p b V P h
    · cases h
  | c :: p, .to a b, V, P, h => by
    cases c
    · exact at_put p a V P h
    · exact at_put p b V P h
theorem put_back : ∀ (p : List Bool) (W V P : Wr), W.at? p = some V → (W.put p P).put p V = W
  | [], _, _, _, h => by cases h; rfl
  | c :: p, .nm _, _, _, h => by cases h
  | c :: p, .of x b, V, P, h => by
    cases c
    · exact congrArg (Wr.of x) (put_back p b V P h)
    · cases h
  | c :: p, .to a b, V, P, h => by
    cases c
    · exact congrArg (Wr.to · b) (put_back p a V P h)
    · exact congrArg (Wr.to a) (put_back p b V P h)
theorem take_cons {c d : Bool} {p q : List Bool} : ((c :: p).take (d :: q).length ≠ d :: q) ↔ (c ≠ d ∨ p.take q.length ≠ q) := by
  rw [List.length_cons, List.take_succ_cons]
  by_cases h : c = d
  · simp [h]
  · simp [h]
theorem put_apart : ∀ (p q : List Bool) (W V U P O : Wr), W.at? p = some V → W.at? q = some U → p.take q.length ≠ q → q.take p.length ≠ p →
    (W.put p P).put q O = (W.put q O).put p P ∧ (W.put p P).at? q = some U
  | [], q, _, _, _, _, _, _, _, _, h => absurd rfl h
  | _ :: _, [], _, _, _, _, _, _, _, h, _ => absurd rfl h
  | c :: p, d :: q, .nm _, _, _, _, _, h, _, _, _ => by cases h
  | c :: p, d :: q, .of x b, V, U, P, O, h1, h2, h3, h4 => by
    cases c
    · cases d
      · rw [take_cons] at h3 h4
        obtain ⟨e1, e2⟩ := put_apart p q b V U P O h1 h2 (h3.resolve_left (by simp)) (h4.resolve_left (by simp))
        exact ⟨congrArg (Wr.of x) e1, e2⟩
      · cases h2
    · cases h1
  | c :: p, d :: q, .to a b, V, U, P, O, h1, h2, h3, h4 => by
    rw [take_cons] at h3 h4
    cases c
    · cases d
      · obtain ⟨e1, e2⟩ := put_apart p q a V U P O h1 h2 (h3.resolve_left (by simp)) (h4.resolve_left (by simp))
        exact ⟨congrArg (Wr.to · b) e1, e2⟩
      · exact ⟨rfl, h2⟩
    · cases d
      · exact ⟨rfl, h2⟩
      · obtain ⟨e1, e2⟩ := put_apart p q b V U P O h1 h2 (h3.resolve_left (by simp)) (h4.resolve_left (by simp))
        exact ⟨congrArg (Wr.to a) e1, e2⟩
theorem put_in2 : ∀ (p i : List Bool) (W V P O : Wr), W.at? p = some V → (W.put p P).put (p ++ i) O = W.put p (P.put i O) ∧ (W.put p P).at? (p ++ i) = P.at? i
  | [], _, _, _, _, _, _ => ⟨rfl, rfl⟩
  | c :: p, i, .nm _, _, _, _, h => by cases h
  | c :: p, i, .of x b, V, P, O, h => by
    cases c
    · obtain ⟨e1, e2⟩ := put_in2 p i b V P O h
      exact ⟨congrArg (Wr.of x) e1, e2⟩
    · cases h
  | c :: p, i, .to a b, V, P, O, h => by
    cases c
    · obtain ⟨e1, e2⟩ := put_in2 p i a V P O h
      exact ⟨congrArg (Wr.to · b) e1, e2⟩
    · obtain ⟨e1, e2⟩ := put_in2 p i b V P O h
      exact ⟨congrArg (Wr.to a) e1, e2⟩
/-- how great the whole is -/
theorem put_size : ∀ (p : List Bool) (W V P : Wr), W.at? p = some V → (W.put p P).size ≤ W.size + P.size ∧ (W.put p P).dp ≤ W.dp + P.dp ∧ V.size ≤ W.size ∧ V.dp + p.length ≤ W.dp ∧ (∀ x ∈ (W.put p P).names, x ∈ W.names ∨ x ∈ P.names) ∧ ∀ x ∈ V.names, x ∈ W.names
  | [], W, _, P, h => by cases h; exact ⟨Nat.le_add_left _ _, Nat.le_add_left _ _, Nat.le_refl _, Nat.le_refl _, fun _ h => .inr h, fun _ h => h⟩
  | c :: p, .nm _, _, _, h => by cases h
  | c :: p, .of x b, V, P, h => by
    cases c
    · obtain ⟨a1, a2, a3, a4, a5, a6⟩ := put_size p b V P h
      refine ⟨by simp only [Wr.put, Wr.size]; omega, by simp only [Wr.put, Wr.dp]; omega, by simp only [Wr.size]; omega, by simp only [Wr.dp, List.length_cons]; omega, fun y hy => ?_, fun y hy => List.mem_cons_of_mem _ (a6 y hy)⟩
      rcases List.mem_cons.mp hy with rfl | hy
      · exact .inl List.mem_cons_self
      · exact (a5 y hy).imp (List.mem_cons_of_mem _) id
    · cases h
  | c :: p, .to a b, V, P, h => by
    cases c
    · obtain ⟨a1, a2, a3, a4, a5, a6⟩ := put_size p a V P h
      refine ⟨by simp only [Wr.put, Wr.size, Bool.false_eq_true, if_false]; omega, by simp only [Wr.put, Wr.dp, Bool.false_eq_true, if_false]; omega, by simp only [Wr.size]; omega, by simp only [Wr.dp, List.length_cons]; omega, fun y hy => ?_, fun y hy => List.mem_append_left _ (a6 y hy)⟩
      rcases List.mem_append.mp hy with hy | hy
      · exact (a5 y hy).imp (List.mem_append_left _) id
      · exact .inl (List.mem_append_right _ hy)
    · obtain ⟨a1, a2, a3, a4, a5, a6⟩ := put_size p b V P h
      refine ⟨by simp only [Wr.put, Wr.size, if_true]; omega, by simp only [Wr.put, Wr.dp, if_true]; omega, by simp only [Wr.size]; omega, by simp only [Wr.dp, List.length_cons]; omega, fun y hy => ?_, fun y hy => List.mem_append_right _ (a6 y hy)⟩
      rcases List.mem_append.mp hy with hy | hy
      · exact .inl (List.mem_append_left _ hy)
      · exact (a5 y hy).imp (List.mem_append_right _) id
/-- the walked places -/
theorem wk_ways : ∀ (W : Wr) (q : List Bool), (W.wk q).map (·.1) = W.pre.map (q ++ ·)
  | .nm _, q => by simp [Wr.wk, Wr.pre]
  | .of x b, q => by
    have ih := wk_ways b (q ++ [false])
    simp only [Wr.wk, Wr.pre, List.map_cons, ih, List.map_map, List.append_nil]
    congr 1
    exact List.map_congr_left fun r _ => by simp
  | .to a b, q => by
    have h1 := wk_ways a (q ++ [false])
    have h2 := wk_ways b (q ++ [true])
    simp only [Wr.wk, Wr.pre, List.map_cons, List.map_append, h1, h2, List.map_map, List.append_nil]
    congr 1
    congr 1
    · exact List.map_congr_left fun r _ => by simp
    · exact List.map_congr_left fun r _ => by simp
theorem wk_at : ∀ (W : Wr) (q : List Bool) (t : List Bool × Wr), t ∈ W.wk q → ∃ r, t.1 = q ++ r ∧ W.at? r = some t.2
  | .nm x, q, t, h => by
    rw [Wr.wk, List.mem_singleton] at h
    subst h
    exact ⟨[], by simp, rfl⟩
  | .of x b, q, t, h => by
    rcases List.mem_cons.mp h with rfl | h
    · exact ⟨[], by simp, rfl⟩
    · obtain ⟨r, e1, e2⟩ := wk_at b _ t h
      exact ⟨false :: r, by rw [e1]; simp, e2⟩
  | .to a b, q, t, h => by
    rcases List.mem_cons.mp h with rfl | h
    · exact ⟨[], by simp, rfl⟩
    · rcases List.mem_append.mp h with h | h
      · obtain ⟨r, e1, e2⟩ := wk_at a _ t h
        exact ⟨false :: r, by rw [e1]; simp, e2⟩
      · obtain ⟨r, e1, e2⟩ := wk_at b _ t h
        exact ⟨true :: r, by rw [e1]; simp, e2⟩
theorem wk_len : ∀ (W : Wr) (q : List Bool), (W.wk q).length = W.size
  | .nm _, _ => rfl
  | .of x b, q => by simp only [Wr.wk, List.length_cons, wk_len b, Wr.size]
  | .to a b, q => by simp only [Wr.wk, List.length_cons, List.length_append, wk_len a, wk_len b, Wr.size]
theorem pre_len (W : Wr) : W.pre.length = W.size := by
  have := wk_len W []
  have e := congrArg List.length (wk_ways W [])
  rw [List.length_map, List.length_map] at e
  omega
theorem pre_deep : ∀ (W : Wr), ∀ p ∈ W.pre, p.length ≤ W.dp
  | .nm _, p, h => by rw [Wr.pre, List.mem_singleton] at h; subst h; exact Nat.le_refl _
  | .of x b, p, h => by
    rcases List.mem_cons.mp h with rfl | h
    · exact Nat.zero_le _
    · obtain ⟨r, hr, rfl⟩ := List.mem_map.mp h
      have := pre_deep b r hr
      simp only [Wr.dp, List.length_cons]; omega
  | .to a b, p, h => by
    rcases List.mem_cons.mp h with rfl | h
    · exact Nat.zero_le _
    · rcases List.mem_append.mp h with h | h
      · obtain ⟨r, hr, rfl⟩ := List.mem_map.mp h
        have := pre_deep a r hr
        simp only [Wr.dp, List.length_cons]; omega
      · obtain ⟨r, hr, rfl⟩ := List.mem_map.mp h
        have := pre_deep b r hr
        simp only [Wr.dp, List.length_cons]; omega
/-- those that do not lie at or below a place -/
def apt (p : List Bool) (l : List (List Bool)) : List (List Bool) := l.filter fun q => decide (q.take p.length ≠ p)
theorem apt_nil (l : List (List Bool)) : apt [] l = [] := List.filter_eq_nil_iff.mpr fun q _ => by simp
theorem apt_root {c : Bool} {p : List Bool} {l : List (List Bool)} : apt (c :: p) ([] :: l) = [] :: apt (c :: p) l := by
  unfold apt
  rw [List.filter_cons, if_pos (by simp)]
theorem apt_same {c : Bool} {p : List Bool} (l : List (List Bool)) : apt (c :: p) (l.map (List.cons c)) = (apt p l).map (List.cons c) := by
  unfold apt
  rw [List.filter_map]
  congr 1
  exact List.filter_congr fun q _ => by simp
theorem apt_other {c d : Bool} {p : List Bool} (h : c ≠ d) (l : List (List Bool)) : apt (c :: p) (l.map (List.cons d)) = l.map (List.cons d) := by
  unfold apt
  refine List.filter_eq_self.mpr fun q hq => ?_
  obtain ⟨r, _, rfl⟩ := List.mem_map.mp hq
  simp [Ne.symm h]
theorem apt_append {p : List Bool} (l m : List (List Bool)) : apt p (l ++ m) = apt p l ++ apt p m := List.filter_append _ _
theorem pre_put : ∀ (p : List Bool) (W V P : Wr), W.at? p = some V → (apt p W.pre ++ P.pre.map (p ++ ·)).Perm (W.put p P).pre
  | [], W, V, P, _ => by
    rw [apt_nil, List.nil_append]
    have e : P.pre.map (([] : List Bool) ++ ·) = P.pre := by
      rw [show (([] : List Bool) ++ ·) = id from funext fun x => List.nil_append x, List.map_id]
    rw [e]
    exact List.Perm.refl _
  | c :: p, .nm _, _, _, h => by cases h
  | c :: p, .of x b, V, P, h => by
    cases c
    · have ih := (pre_put p b V P h).map (List.cons false)
      rw [List.map_append, List.map_map] at ih
      show (apt (false :: p) ([] :: b.pre.map (List.cons false)) ++ _).Perm ([] :: (b.put p P).pre.map (List.cons false))
      rw [apt_root, apt_same, List.cons_append]
      exact ih.cons _
    · cases h
  | c :: p, .to a b, V, P, h => by
    cases c
    · have ih := (pre_put p a V P h).map (List.cons false)
      rw [List.map_append, List.map_map] at ih
      show (apt (false :: p) ([] :: (a.pre.map (List.cons false) ++ b.pre.map (List.cons true))) ++ _).Perm ([] :: ((a.put p P).pre.map (List.cons false) ++ b.pre.map (List.cons true)))
      rw [apt_root, apt_append, apt_same, apt_other (by simp), List.cons_append]
      refine List.Perm.cons _ ?_
      refine List.Perm.trans ?_ (ih.append_right _)
      rw [List.append_assoc, List.append_assoc]
      exact (List.perm_append_comm).append_left _
    · have ih := (pre_put p b V P h).map (List.cons true)
      rw [List.map_append, List.map_map] at ih
      show (apt (true :: p) ([] :: (a.pre.map (List.cons false) ++ b.pre.map (List.cons true))) ++ _).Perm ([] :: (a.pre.map (List.cons false) ++ (b.put p P).pre.map (List.cons true)))
      rw [apt_root, apt_append, apt_same, apt_other (by simp), List.cons_append, List.append_assoc]
      exact (ih.append_left _).cons _
/-- ascending -/
def ltB : List Bool → List Bool → Bool
  | _, [] => false
  | [], _ :: _ => true
  | c :: p, d :: q => if c = d then ltB p q else !c
theorem ltB_asym : ∀ p q : List Bool, ltB p q = true → ltB q p = false
  | p, [], h => by cases p <;> cases h
  | [], _ :: _, _ => rfl
  | c :: p, d :: q, h => by
    unfold ltB at h ⊢
    by_cases e : c = d
    · subst e
      rw [if_pos rfl] at h ⊢
      exact ltB_asym p q h
    · rw [if_neg e] at h
      rw [if_neg (Ne.symm e)]
      cases c <;> cases d <;> simp_all
theorem ltB_total : ∀ p q : List Bool, ltB p q = false → ltB q p = false → p = q
  | [], [], _, _ => rfl
  | [], _ :: _, h, _ => by cases h
  | _ :: _, [], _, h => by cases h
  | c :: p, d :: q, h, h' => by
    unfold ltB at h h'
    by_cases e : c = d
    · subst e
      rw [if_pos rfl] at h h'
      rw [ltB_total p q h h']
    · rw [if_neg e] at h
      rw [if_neg (Ne.symm e)] at h'
      cases c <;> cases d <;> simp_all
theorem pre_asc : ∀ W : Wr, W.pre.Pairwise fun p q => ltB p q = true
  | .nm _ => List.pairwise_singleton _ _
  | .of _ b => by
    refine List.pairwise_cons.mpr ⟨fun q hq => ?_, ?_⟩
    · obtain ⟨r, _, rfl⟩ := List.mem_map.mp hq
      rfl
    · rw [List.pairwise_map]
      exact (pre_asc b).imp fun h => by unfold ltB; rw [if_pos rfl]; exact h
  | .to a b => by
    refine List.pairwise_cons.mpr ⟨fun q hq => ?_, List.pairwise_append.mpr ⟨?_, ?_, fun p hp q hq => ?_⟩⟩
    · rcases List.mem_append.mp hq with hq | hq
      · obtain ⟨r, _, rfl⟩ := List.mem_map.mp hq
        rfl
      · obtain ⟨r, _, rfl⟩ := List.mem_map.mp hq
        rfl
    · rw [List.pairwise_map]
      exact (pre_asc a).imp fun h => by unfold ltB; rw [if_pos rfl]; exact h
    · rw [List.pairwise_map]
      exact (pre_asc b).imp fun h => by unfold ltB; rw [if_pos rfl]; exact h
    · obtain ⟨r, _, rfl⟩ := List.mem_map.mp hp
      obtain ⟨t, _, rfl⟩ := List.mem_map.mp hq
      rfl
end Iv

set_option Elab.async false
set_option linter.all false
set_option maxRecDepth 100000
set_option maxHeartbeats 4000000
namespace Iv
open PySem
variable {T : List Fn} {w n : Nat}
def pi1 : St := (.ifs (.isi (.v 0) [.str]) (.cons (.ret (.ite (.cmp .Eq (.v 0) (.v 1)) (.v 2) (.v 0))) .nil) .nil)
def pi2 (f : Nat) : St := (.ifs (.cmp .Eq (.ix (.v 0) (.c (.int 0))) (.g "TO" (.str "to"))) (.cons (.ret (.tup (.cons (.g "TO" (.str "to")) (.cons (.call f (.cons (.ix (.v 0) (.c (.int 1))) (.cons (.v 1) (.cons (.v 2) (.cons (.v 3) .nil))))) (.cons (.call f (.cons (.ix (.v 0) (.c (.int 2))) (.cons (.v 1) (.cons (.v 2) (.cons (.v 3) .nil))))) .nil))))) .nil) .nil)
def pi3 : St := (.par [4, 5] (.cons (.ix (.v 0) (.c (.int 1))) (.cons (.ix (.v 0) (.c (.int 2))) .nil)))
def pi4 : St := (.ifs (.cmp .Eq (.v 4) (.v 1)) (.cons (.ret (.v 0)) .nil) .nil)
def pi5a (fr nms : Nat) : St := (.asg (.n 6) (.call fr (.cons (.v 4) (.cons (.lst (.cons (.v 1) (.star (.v 3) (.star (.call nms (.cons (.v 5) .nil)) .nil)))) .nil))))
def pi5b (f : Nat) : St := (.par [4, 5] (.cons (.v 6) (.cons (.call f (.cons (.v 5) (.cons (.v 4) (.cons (.v 6) (.cons (.lst (.cons (.v 6) .nil)) .nil))))) .nil)))
def pi5 (f fin fr nms : Nat) : St := (.ifs (.and (.cmp .In (.v 4) (.v 3)) (.cmp .In (.v 1) (.call fin (.cons (.v 5) .nil)))) (.cons (pi5a fr nms) (.cons (pi5b f) .nil)) .nil)
def pi6 (f : Nat) : St := (.ret (.tup (.cons (.g "OF" (.str "of")) (.cons (.v 4) (.cons (.call f (.cons (.v 5) (.cons (.v 1) (.cons (.v 2) (.cons (.v 3) .nil))))) .nil)))))
def putInB (f fin fr nms : Nat) : Ss := .cons pi1 (.cons (pi2 f) (.cons pi3 (.cons pi4 (.cons (pi5 f fin fr nms) (.cons (pi6 f) .nil)))))
theorem isS_nm (x : Str) : [Ty.str].any (isTy (.str x)) = true := rfl
theorem sz3 (a b c : D) : small [a, b, c].length = true := rfl
theorem inS (x : Str) (l : List Str) : cmpD .In (.str x) (.lst (l.map D.str)) = some (decide (x ∈ l)) := by
  rw [in_lst rfl (flats_strs l), inFlat_strs]
theorem eqS (a b : Str) : cmpD .Eq (.str a) (.str b) = some (decide (a = b)) := rfl
theorem eqTTp : cmpD .Eq (.str "to") (.str "to") = some true := by decide
theorem eqOTp : cmpD .Eq (.str "of") (.str "to") = some false := by decide
section
variable {f fin fr nms : Nat} (hT : T[f]? = some ⟨4, 7, putInB f fin fr nms⟩) {S : Sto}
include hT
/-- a name -/
theorem pi_nm {y x : Str} {o sh : D} : run T w (n + 1) f [.str y, .str x, o, sh] S = some (if y = x then o else .str y, S) := by
  refine run_rts hT rfl rfl ?_
  have e := eqS y x
  by_cases h : y = x
  · subst h
    rw [decide_eq_true rfl] at e
    simp only [putInB, pi1, List.map_cons, List.map_nil, Nat.reduceSub, List.replicate_succ, List.replicate_zero, List.cons_append, List.nil_append, exs, ex, ev, see_str, isS_nm, List.getElem?_cons_zero, List.getElem?_cons_succ, e, if_true]
  · rw [decide_eq_false h] at e
    simp only [putInB, pi1, List.map_cons, List.map_nil, Nat.reduceSub, List.replicate_succ, List.replicate_zero, List.cons_append, List.nil_append, exs, ex, ev, see_str, isS_nm, List.getElem?_cons_zero, List.getElem?_cons_succ, e, h, if_false]
/-- handed -/
theorem pi_to {a b a' b' x o sh : D} (ha : run T w n f [a, x, o, sh] S = some (a', S)) (hb : run T w n f [b, x, o, sh] S = some (b', S)) : run T w (n + 1) f [.tup [.str "to", a, b], x, o, sh] S = some (.tup [.str "to", a', b'], S) := by
  refine run_rts hT rfl rfl ?_
  obtain ⟨q1, q2, q3, q4, q5, q6, q7⟩ := sq3_T (.str "to") a b
  have s1 : ex (run T w n) w pi1 [some (.tup [.str "to", a, b]), some x, some o, some sh, none, none, none] S = some (.nx [some (.tup [.str "to", a, b]), some x, some o, some sh, none, none, none], S) := by
    simp only [pi1, exs, ex, ev, q1, q2, List.getElem?_cons_zero]
  have s2 : ex (run T w n) w (pi2 f) [some (.tup [.str "to", a, b]), some x, some o, some sh, none, none, none] S = some (.rt (.tup [.str "to", a', b']), S) := by
    simp only [pi2, exs, ex, ev, evs, see_str, q1, q5, q6, q7, List.getElem?_cons_zero, List.getElem?_cons_succ, eqTTp, ha, hb, sz3, if_true]
  show exs (run T w n) w (putInB f fin fr nms) [some (.tup [.str "to", a, b]), some x, some o, some sh, none, none, none] S = _
  simp only [putInB, exs, s1, s2]
/-- of, the name its own -/
theorem pi_own {y : Str} {b o sh : D} : run T w (n + 1) f [.tup [.str "of", .str y, b], .str y, o, sh] S = some (.tup [.str "of", .str y, b], S) := by
  refine run_rts hT rfl rfl ?_
  obtain ⟨q1, q2, q3, q4, q5, q6, q7⟩ := sq3_T (.str "of") (.str y) b
  have e := eqS y y
  rw [decide_eq_true rfl] at e
  have s1 : ex (run T w n) w pi1 [some (.tup [.str "of", .str y, b]), some (.str y), some o, some sh, none, none, none] S = some (.nx [some (.tup [.str "of", .str y, b]), some (.str y), some o, some sh, none, none, none], S) := by
    simp only [pi1, exs, ex, ev, q1, q2, List.getElem?_cons_zero]
  have s2 : ex (run T w n) w (pi2 f) [some (.tup [.str "of", .str y, b]), some (.str y), some o, some sh, none, none, none] S = some (.nx [some (.tup [.str "of", .str y, b]), some (.str y), some o, some sh, none, none, none], S) := by
    simp only [pi2, exs, ex, ev, evs, see_str, q1, q5, List.getElem?_cons_zero, eqOTp]
  have s3 : ex (run T w n) w pi3 [some (.tup [.str "of", .str y, b]), some (.str y), some o, some sh, none, none, none] S = some (.nx [some (.tup [.str "of", .str y, b]), some (.str y), some o, some sh, some (.str y), some b, none], S) := by
    simp only [pi3, ex, ev, evs, q1, q6, q7, List.getElem?_cons_zero]
    rfl
  have s4 : ex (run T w n) w pi4 [some (.tup [.str "of", .str y, b]), some (.str y), some o, some sh, some (.str y), some b, none] S = some (.rt (.tup [.str "of", .str y, b]), S) := by
    simp only [pi4, exs, ex, ev, see_str, List.getElem?_cons_zero, List.getElem?_cons_succ, e]
  show exs (run T w n) w (putInB f fin fr nms) [some (.tup [.str "of", .str y, b]), some (.str y), some o, some sh, none, none, none] S = _
  simp only [putInB, exs, s1, s2, s3, s4]
/-- the head of the other two: up to the fifth line -/
theorem pi_head {y x : Str} {b o sh : D} (h : y ≠ x) {out : Option (Out × Sto)} (e5 : exs (run T w n) w (.cons (pi5 f fin fr nms) (.cons (pi6 f) .nil)) [some (.tup [.str "of", .str y, b]), some (.str x), some o, some sh, some (.str y), some b, none] S = out) :
    exs (run T w n) w (putInB f fin fr nms) [some (.tup [.str "of", .str y, b]), some (.str x), some o, some sh, none, none, none] S = out := by
  obtain ⟨q1, q2, q3, q4, q5, q6, q7⟩ := sq3_T (.str "of") (.str y) b
  have e := eqS y x
  rw [decide_eq_false h] at e
  have s1 : ex (run T w n) w pi1 [some (.tup [.str "of", .str y, b]), some (.str x), some o, some sh, none, none, none] S = some (.nx [some (.tup [.str "of", .str y, b]), some (.str x), some o, some sh, none, none, none], S) := by
    simp only [pi1, exs, ex, ev, q1, q2, List.getElem?_cons_zero]
  have s2 : ex (run T w n) w (pi2 f) [some (.tup [.str "of", .str y, b]), some (.str x), some o, some sh, none, none, none] S = some (.nx [some (.tup [.str "of", .str y, b]), some (.str x), some o, some sh, none, none, none], S) := by
    simp only [pi2, exs, ex, ev, evs, see_str, q1, q5, List.getElem?_cons_zero, eqOTp]
  have s3 : ex (run T w n) w pi3 [some (.tup [.str "of", .str y, b]), some (.str x), some o, some sh, none, none, none] S = some (.nx [some (.tup [.str "of", .str y, b]), some (.str x), some o, some sh, some (.str y), some b, none], S) := by
    simp only [pi3, ex, ev, evs, q1, q6, q7, List.getElem?_cons_zero]
    rfl
  have s4 : ex (run T w n) w pi4 [some (.tup [.str "of", .str y, b]), some (.str x), some o, some sh, some (.str y), some b, none] S = some (.nx [some (.tup [.str "of", .str y, b]), some (.str x), some o, some sh, some (.str y), some b, none], S) := by
    simp only [pi4, exs, ex, ev, see_str, List.getElem?_cons_zero, List.getElem?_cons_succ, e]
  rw [← e5]
  simp only [putInB, exs, s1, s2, s3, s4]
/-- of, nothing caught -/
theorem pi_of {y x : Str} {b b' o : D} {sh : List Str} (h : y ≠ x) (hs : y ∉ sh ∨ (y ∈ sh ∧ ∃ l : List Str, run T w n fin [b] S = some (.lst (l.map D.str), S) ∧ x ∉ l)) (hb : run T w n f [b, .str x, o, .lst (sh.map D.str)] S = some (b', S)) :
    run T w (n + 1) f [.tup [.str "of", .str y, b], .str x, o, .lst (sh.map D.str)] S = some (.tup [.str "of", .str y, b'], S) := by
  refine run_rts hT rfl rfl (pi_head hT h ?_)
  have e := inS y sh
  have s5 : ex (run T w n) w (pi5 f fin fr nms) [some (.tup [.str "of", .str y, b]), some (.str x), some o, some (.lst (sh.map D.str)), some (.str y), some b, none] S = some (.nx [some (.tup [.str "of", .str y, b]), some (.str x), some o, some (.lst (sh.map D.str)), some (.str y), some b, none], S) := by
    rcases hs with hs | ⟨hs, l, hl, hx⟩
    · rw [decide_eq_false hs] at e
      simp only [pi5, exs, ex, ev, see_str, see_lst, List.getElem?_cons_zero, List.getElem?_cons_succ, e]
    · rw [decide_eq_true hs] at e
      have e2 := inS x l
      rw [decide_eq_false hx] at e2
      simp only [pi5, exs, ex, ev, evs, see_str, see_lst, List.getElem?_cons_zero, List.getElem?_cons_succ, e, hl, e2]
  have s6 : ex (run T w n) w (pi6 f) [some (.tup [.str "of", .str y, b]), some (.str x), some o, some (.lst (sh.map D.str)), some (.str y), some b, none] S = some (.rt (.tup [.str "of", .str y, b']), S) := by
    simp only [pi6, ex, ev, evs, List.getElem?_cons_zero, List.getElem?_cons_succ, hb, sz3, if_true]
  simp only [exs, s5, s6]
end
end Iv

set_option Elab.async false
set_option linter.all false
set_option maxRecDepth 100000
set_option maxHeartbeats 4000000
namespace Lk03
open PySem Iv
abbrev T : List Fn := Fns Ds
theorem t0 : T[0]? = some ⟨1, 1, b_is_integer⟩ := rfl
theorem t1 : T[1]? = some ⟨3, 3, b_is_within⟩ := rfl
theorem t2 : T[2]? = some ⟨1, 2, isNameB⟩ := rfl
theorem t4 : T[4]? = some ⟨1, 2, asTupB 4⟩ := rfl
theorem t12 : T[12]? = some ⟨1, 1, isWrB 2 12⟩ := rfl
theorem t13 : T[13]? = some ⟨2, 2, needB 12 4⟩ := rfl
theorem t16 : T[16]? = some ⟨3, 3, gathB 16⟩ := rfl
theorem t17 : T[17]? = some ⟨1, 2, freeInB 16⟩ := rfl
theorem t35 : T[35]? = some ⟨1, 2, shelfB 60⟩ := rfl
theorem t36 : T[36]? = some ⟨2, 6, reachB 83003 5003 2147483587 63001 2147483489 2549 2147483629⟩ := rfl
theorem t37 : T[37]? = some ⟨2, 2, oneB 36⟩ := rfl
theorem t38 : T[38]? = some ⟨3, 4, drawnB 36 37 38⟩ := rfl
theorem nums : NumsOk 83003 5003 2147483587 63001 2147483489 2549 2147483629 := ⟨by decide, by decide, by decide, by decide, by decide, by decide, by decide⟩
theorem dr {w : Nat} (c : List Int) : Dr T w 36 c := dr_of t36 nums
variable {w n : Nat}
abbrev Good (W : Wr) : Prop := ∀ x ∈ W.names, nmOk x = true
def bit (c : Bool) : Int := if c then 1 else 0
def stp (c : Bool) : D := .int (bit c)
def wyT (p : List Bool) : D := .tup (p.map stp)
def wyL (p : List Bool) : D := .lst (p.map stp)
theorem map_stp (p : List Bool) : p.map stp = (p.map bit).map D.int := by rw [List.map_map]; rfl
theorem bit_inj {c d : Bool} (h : bit c = bit d) : c = d := by cases c <;> cases d <;> first | rfl | cases h
theorem ok_intsT (c : List Int) : D.ok (.tup (c.map D.int)) = true := by
  simp [D.ok, D.pure, D.py, PyData.canLay0, PyData.depth, pures_ints, pys_ints, lay_ints, depth_ints]
theorem eqvAll_ints : ∀ a b : List Int, PyData.eqvAll (a.map PyData.int) (b.map PyData.int) = decide (a = b)
  | [], [] => by simp [PyData.eqvAll]
  | [], _ :: _ => by simp [PyData.eqvAll]
  | _ :: _, [] => by simp [PyData.eqvAll]
  | x :: a, y :: b => by
    simp only [List.map_cons, PyData.eqvAll, PyData.eqv, eqvAll_ints a b]
    by_cases h1 : x = y <;> by_cases h2 : a = b <;> simp [h1, h2]
theorem eqv_wy (p q : List Bool) : D.eqv (wyT p) (wyT q) = decide (p = q) := by
  simp only [D.eqv, wyT, D.py, map_stp, pys_ints, PyData.eqv, eqvAll_ints]
  rw [decide_eq_decide]
  exact ⟨fun h => List.map_inj_right (fun _ _ z => bit_inj z) |>.mp h, fun h => h ▸ rfl⟩
theorem ok_wy (p : List Bool) : D.ok (wyT p) = true := by unfold wyT; rw [map_stp]; exact ok_intsT _
theorem eq_wy (p q : List Bool) : cmpD .Eq (wyT p) (wyT q) = some (decide (p = q)) := by
  show (if _ then _ else _) = _
  rw [ok_wy, ok_wy, eqv_wy]; rfl
theorem ne_wy (p q : List Bool) : cmpD .NotEq (wyT p) (wyT q) = some (!decide (p = q)) := by
  show (if _ then _ else _) = _
  rw [ok_wy, ok_wy, eqv_wy]; rfl
theorem pure_wy (p : List Bool) : D.pure (wyT p) = true := by unfold wyT; rw [map_stp]; exact pures_ints _
theorem cut1 (x : D) (l : List D) : slD (.tup (x :: l)) (some 1) none = some (.tup l) := by
  show some (D.tup (cutD _ _ _)) = _
  unfold cutD
  rw [HT.sIx_none, show (1 : Int) = ((1 : Nat) : Int) from rfl, HT.sIx_nat, List.length_cons, Nat.min_eq_left (by omega), List.drop_succ_cons, List.drop_zero, List.take_of_length_le (by omega)]
theorem wy0 (c : Bool) (p : List Bool) : ixD (wyT (c :: p)) (.int 0) = some (stp c) := by
  show L2.atI (stp c :: p.map stp) ((0 : Nat) : Int) = _
  rw [atI_nat (by simp)]
  rfl
theorem see_wy (S : Sto) (p : List Bool) : see S (wyT p) = some (wyT p) := rfl
theorem int_ok (i : Int) (S : Sto) : run T w (n + 1) 0 [.int i] S = some (.bl true, S) := by
  refine run_rts t0 rfl rfl ?_
  have z1 : [Ty.int].any (isTy (.int i)) = true := rfl
  have z2 : [Ty.bool].any (isTy (.int i)) = false := rfl
  simp only [b_is_integer, List.map_cons, List.map_nil, Nat.sub_self, List.replicate_zero, List.cons_append, List.nil_append, exs, ex, ev, List.getElem?_cons_zero, see_int, z1, z2, Bool.not_false]
theorem within_ok {i m : Int} (h0 : 0 ≤ i) (h1 : i ≤ m) (S : Sto) : run T w (n + 2) 1 [.int i, .int 0, .int m] S = some (.bl true, S) := by
  refine run_rts t1 rfl rfl ?_
  have z0 := int_ok (w := w) (n := n) i S
  have z1 : cmpD .IsNot (.int 0) .non = some true := rfl
  have z2 : cmpD .Lt (.int i) (.int 0) = some false := congrArg some (decide_eq_false (by omega))
  have z3 : cmpD .Is (.int m) .non = some false := rfl
  have z4 : cmpD .LtE (.int i) (.int m) = some true := congrArg some (decide_eq_true h1)
  have z5 : ∀ S, see S .non = some .non := fun _ => rfl
  simp only [b_is_within, List.map_cons, List.map_nil, Nat.sub_self, List.replicate_zero, List.cons_append, List.nil_append, exs, ex, ev, evs, List.getElem?_cons_zero, List.getElem?_cons_succ, see_int, z0, z1, z2, z3, z4, z5, Bool.not_true]
def stepS : St := (.asg (.n 0) (.ite (.cmp .Eq (.ix (.v 0) (.c (.int 0))) (.g "OF" (.str "of"))) (.ix (.v 0) (.c (.int 2))) (.ix (.v 0) (.op .Add (.c (.int 1)) (.v 2)))))
theorem at_cons {c : Bool} {p : List Bool} {W V : Wr} (h : W.at? (c :: p) = some V) : ∃ U, W.at? [c] = some U ∧ U.at? p = some V := by
  cases W with
  | nm x => cases h
  | of x b => cases c with
    | false => exact ⟨b, rfl, h⟩
    | true => cases h
  | to a b => cases c with
    | false => exact ⟨a, rfl, h⟩
    | true => exact ⟨b, rfl, h⟩
theorem step_ok {F : CF} {W U : Wr} {c : Bool} (h : W.at? [c] = some U) (v1 : Option D) (S : Sto) : ex F w stepS [some W.enc, v1, some (stp c)] S = some (.nx [some U.enc, v1, some (stp c)], S) := by
  cases W with
  | nm x => cases h
  | of x b => cases c with
    | true => cases h
    | false =>
      obtain ⟨q1, q2, q3, q4, q5, q6, q7⟩ := sq3_T (.str "of") (.str x) b.enc
      cases h
      simp only [stepS, Wr.enc, ex, ev, List.getElem?_cons_zero, List.getElem?_cons_succ, see_tup, see_str, see_int, q5, q6, q7, eq_of, setT, List.set_cons_zero]
  | to a b =>
    obtain ⟨q1, q2, q3, q4, q5, q6, q7⟩ := sq3_T (.str "to") a.enc b.enc
    have q6' : ixD (.tup [.str "to", a.enc, b.enc]) (.int (1 + 0)) = some a.enc := rfl
    have q7' : ixD (.tup [.str "to", a.enc, b.enc]) (.int (1 + 1)) = some b.enc := rfl
    cases c with
    | false =>
      cases h
      simp only [stepS, Wr.enc, stp, bit, Bool.false_eq_true, if_false, ex, ev, List.getElem?_cons_zero, List.getElem?_cons_succ, see_tup, see_str, see_int, q5, eq_to, op_add, q6', setT, List.set_cons_zero]
    | true =>
      cases h
      simp only [stepS, Wr.enc, stp, bit, if_true, ex, ev, List.getElem?_cons_zero, List.getElem?_cons_succ, see_tup, see_str, see_int, q5, eq_to, op_add, q7', setT, List.set_cons_zero]
def plT : St := (.ifs (.or (.isi (.v 0) [.str]) (.not (.call 1 (.cons (.v 2) (.cons (.c (.int 0)) (.cons (.ite (.cmp .Eq (.ix (.v 0) (.c (.int 0))) (.g "OF" (.str "of"))) (.c (.int 0)) (.c (.int 1))) .nil)))))) (.cons (.ret (.c (.bl false))) .nil) .nil)
theorem plT_ok {W U : Wr} {c : Bool} (h : W.at? [c] = some U) (v1 : Option D) (S : Sto) : ex (run T w (n + 2)) w plT [some W.enc, v1, some (stp c)] S = some (.nx [some W.enc, v1, some (stp c)], S) := by
  cases W with
  | nm x => cases h
  | of x b => cases c with
    | true => cases h
    | false =>
      obtain ⟨q1, q2, q3, q4, q5, q6, q7⟩ := sq3_T (.str "of") (.str x) b.enc
      have z := within_ok (w := w) (n := n) (i := 0) (m := 0) (by decide) (by decide) S
      simp only [plT, Wr.enc, stp, bit, Bool.false_eq_true, if_false, exs, ex, ev, evs, List.getElem?_cons_zero, List.getElem?_cons_succ, see_tup, see_str, see_int, q2, q5, eq_of, z, Bool.not_true]
  | to a b =>
    obtain ⟨q1, q2, q3, q4, q5, q6, q7⟩ := sq3_T (.str "to") a.enc b.enc
    have z : run T w (n + 2) 1 [stp c, .int 0, .int 1] S = some (.bl true, S) := by
      cases c
      · exact within_ok (w := w) (n := n) (i := 0) (m := 1) (by decide) (by decide) S
      · exact within_ok (w := w) (n := n) (i := 1) (m := 1) (by decide) (by decide) S
    simp only [plT, Wr.enc, exs, ex, ev, evs, List.getElem?_cons_zero, List.getElem?_cons_succ, see_tup, see_str, see_int, q2, q5, eq_to, z, Bool.not_true]
theorem pl_loop {v1 : Option D} {S : Sto} : ∀ (p : List Bool) (W V : Wr) (y : Option D), W.at? p = some V → ∃ y', forRun (.n 2) (fun ρ S => exs (run T w (n + 2)) w (.cons plT (.cons stepS .nil)) ρ S) (p.map stp) [some W.enc, v1, y] S = some (.nx [some V.enc, v1, y'], S)
  | [], W, V, y, h => by cases h; exact ⟨y, rfl⟩
  | c :: p, W, V, y, h => by
    obtain ⟨U, h1, h2⟩ := at_cons h
    obtain ⟨y', e⟩ := pl_loop (v1 := v1) (S := S) p U V (some (stp c)) h2
    refine ⟨y', ?_⟩
    rw [List.map_cons, forRun]
    simp only [setT, List.set_cons_succ, List.set_cons_zero, exs, plT_ok h1, step_ok h1]
    exact e
theorem pa_loop {F : CF} {v1 : Option D} {S : Sto} : ∀ (p : List Bool) (W V : Wr) (y : Option D), W.at? p = some V → ∃ y', forRun (.n 2) (fun ρ S => exs F w (.cons stepS .nil) ρ S) (p.map stp) [some W.enc, v1, y] S = some (.nx [some V.enc, v1, y'], S)
  | [], W, V, y, h => by cases h; exact ⟨y, rfl⟩
  | c :: p, W, V, y, h => by
    obtain ⟨U, h1, h2⟩ := at_cons h
    obtain ⟨y', e⟩ := pa_loop (F := F) (v1 := v1) (S := S) p U V (some (stp c)) h2
    refine ⟨y', ?_⟩
    rw [List.map_cons, forRun]
    simp only [setT, List.set_cons_succ, List.set_cons_zero, exs, step_ok h1]
    exact e
theorem t31 : T[31]? = some ⟨2, 3, .cons (.ifs (.not (.isi (.v 1) [.list, .tuple])) (.cons (.ret (.c (.bl false))) .nil) .nil) (.cons (.for (.n 2) (.v 1) (.cons plT (.cons stepS .nil))) (.cons (.ret (.c (.bl true))) .nil))⟩ := rfl
theorem isPlace_ok {p : List Bool} {W V : Wr} (h : W.at? p = some V) {d : D} (hd : d = wyT p ∨ d = wyL p) (S : Sto) : run T w (n + 3) 31 [W.enc, d] S = some (.bl true, S) := by
  refine run_rts t31 rfl rfl ?_
  obtain ⟨y', e⟩ := pl_loop (w := w) (n := n) (v1 := some d) (S := S) p W V none h
  have z1 : items d = some (p.map stp) := by rcases hd with rfl | rfl <;> rfl
  have z2 : [Ty.list, .tuple].any (isTy d) = true := by rcases hd with rfl | rfl <;> rfl
  have z3 : see S d = some d := by rcases hd with rfl | rfl <;> rfl
  have s1 : ∀ ρ, ρ[1]? = some (some d) → ex (run T w (n + 2)) w (.ifs (.not (.isi (.v 1) [.list, .tuple])) (.cons (.ret (.c (.bl false))) .nil) .nil) ρ S = some (.nx ρ, S) := fun ρ hρ => by
    simp only [ex, exs, ev, hρ, z2, z3, Bool.not_true]
  have s2 : ex (run T w (n + 2)) w (.for (.n 2) (.v 1) (.cons plT (.cons stepS .nil))) [some W.enc, some d, none] S = some (.nx [some V.enc, some d, y'], S) := by
    rw [ex]
    simp only [ev, List.getElem?_cons_zero, List.getElem?_cons_succ, z1]
    exact e
  simp only [List.map_cons, List.map_nil, Nat.reduceSub, List.replicate_succ, List.replicate_zero, List.cons_append, List.nil_append]
  rw [exs, s1 _ rfl]
  simp only []
  rw [exs, s2]
  rfl
theorem t32 : T[32]? = some ⟨2, 2, b_need_place⟩ := rfl
theorem needPlace_ok {p : List Bool} {W V : Wr} (h : W.at? p = some V) {d : D} (hd : d = wyT p ∨ d = wyL p) (S : Sto) : run T w (n + 4) 32 [W.enc, d] S = some (wyT p, S) := by
  refine run_rts t32 rfl rfl ?_
  have z := isPlace_ok (w := w) (n := n) h hd S
  have z1 : see S d = some d := by rcases hd with rfl | rfl <;> rfl
  have z2 : biD .tuple [d] = some (wyT p) := by rcases hd with rfl | rfl <;> rfl
  simp only [b_need_place, List.map_cons, List.map_nil, Nat.sub_self, List.replicate_zero, List.cons_append, List.nil_append, exs, ex, ev, evs, seeAll, List.getElem?_cons_zero, List.getElem?_cons_succ, z, z1, z2, Bool.not_true]
theorem t30 : T[30]? = some ⟨2, 3, .cons (.for (.n 2) (.v 1) (.cons stepS .nil)) (.cons (.ret (.v 0)) .nil)⟩ := rfl
theorem partIn_ok {p : List Bool} {W V : Wr} (h : W.at? p = some V) (S : Sto) : run T w (n + 1) 30 [W.enc, wyT p] S = some (V.enc, S) := by
  refine run_rts t30 rfl rfl ?_
  obtain ⟨y', e⟩ := pa_loop (w := w) (F := run T w n) (v1 := some (wyT p)) (S := S) p W V none h
  have z1 : items (wyT p) = some (p.map stp) := rfl
  have s2 : ex (run T w n) w (.for (.n 2) (.v 1) (.cons stepS .nil)) [some W.enc, some (wyT p), none] S = some (.nx [some V.enc, some (wyT p), y'], S) := by
    rw [ex]
    simp only [ev, List.getElem?_cons_zero, List.getElem?_cons_succ, z1]
    exact e
  simp only [List.map_cons, List.map_nil, Nat.reduceSub, List.replicate_succ, List.replicate_zero, List.cons_append, List.nil_append]
  rw [exs, s2]
  rfl
def plC (k : Int) (j : Int) : E := (.comp false (.n 1) (.call 29 (.cons (.ix (.v 0) (.c (.int j))) .nil)) (.tup (.cons (.c (.int k)) (.star (.v 1) .nil))))
theorem t29 : T[29]? = some ⟨1, 2, .cons (.ifs (.isi (.v 0) [.str]) (.cons (.ret (.lst (.cons (.tup .nil) .nil))) .nil) .nil) (.cons (.ifs (.cmp .Eq (.ix (.v 0) (.c (.int 0))) (.g "OF" (.str "of"))) (.cons (.ret (.lst (.cons (.tup .nil) (.star (plC 0 2) .nil)))) .nil) .nil) (.cons (.ret (.lst (.cons (.tup .nil) (.star (plC 0 1) (.star (plC 1 2) .nil))))) .nil))⟩ := rfl
def pfx (k : Int) : D → D
  | .tup xs => .tup (.int k :: xs)
  | d => d
theorem plC_ok {W : Wr} {d : D} {k j : Int} {S : Sto} (hd : ixD d (.int j) = some W.enc) (hs : see S d = some d) (h : run T w n 29 [W.enc] S = some (.lst (W.pre.map wyT), S)) (h1 : W.size ≤ 10000) (h2 : W.dp ≤ 10000) :
    ev (run T w n) (plC k j) [some d, none] S = some (.lst (W.pre.map fun p => .tup (.int k :: p.map stp)), S) := by
  have z := ev_comp (F := run T w n) (t := .n 1) (it := .call 29 (.cons (.ix (.v 0) (.c (.int j))) .nil)) (elt := .tup (.cons (.c (.int k)) (.star (.v 1) .nil))) (ρ := [some d, none]) (S := S) (S1 := S) (x := .lst (W.pre.map wyT)) (xs := W.pre.map wyT) (g := pfx k)
    (by simp only [ev, evs, List.getElem?_cons_zero, hs, hd, h]) rfl (fun e he => by
      obtain ⟨p, hp, rfl⟩ := List.mem_map.mp he
      have hl := pre_deep W p hp
      refine ⟨_, rfl, ?_⟩
      have zs : small (D.int k :: p.map stp).length = true := decide_eq_true (by simp only [List.length_cons, List.length_append, List.length_map, List.length_nil]; omega)
      simp only [wipeT, ev, evs, List.set_cons_succ, List.set_cons_zero, List.getElem?_cons_zero, List.getElem?_cons_succ, wyT, see_tup, List.append_nil, zs, if_true, pfx]) (by rw [List.length_map, pre_len]; omega)
  rw [List.map_map] at z
  exact z
theorem placesIn_ok {S : Sto} : ∀ (W : Wr) (n : Nat), W.dp + 1 ≤ n → W.size ≤ 5000 → W.dp ≤ 5000 → run T w n 29 [W.enc] S = some (.lst (W.pre.map wyT), S)
  | .nm x, n, hn, _, _ => by
    obtain ⟨n, rfl⟩ : ∃ m, n = m + 1 := ⟨n - 1, by omega⟩
    refine run_rts t29 rfl rfl ?_
    have z0 : [Ty.str].any (isTy (.str x)) = true := rfl
    have zs : small ([] : List D).length = true := rfl
    have zs1 : ∀ a : D, small [a].length = true := fun _ => rfl
    simp only [Wr.enc, List.map_cons, List.map_nil, Nat.reduceSub, List.replicate_succ, List.replicate_zero, List.cons_append, List.nil_append, exs, ex, ev, evs, List.getElem?_cons_zero, see_str, z0, zs, zs1, if_true]
    rfl
  | .of x b, n, hn, h1, h2 => by
    obtain ⟨n, rfl⟩ : ∃ m, n = m + 1 := ⟨n - 1, by omega⟩
    simp only [Wr.dp, Wr.size] at hn h1 h2
    have ih := placesIn_ok (S := S) b n (by omega) (by omega) (by omega)
    obtain ⟨q1, q2, q3, q4, q5, q6, q7⟩ := sq3_T (.str "of") (.str x) b.enc
    have z := plC_ok (k := 0) q7 (q1 S) ih (by omega) (by omega)
    refine run_rts t29 rfl rfl ?_
    have zs : small ([] : List D).length = true := rfl
    have zs1 : small (D.tup [] :: ((b.pre.map fun p => D.tup (.int 0 :: p.map stp)) ++ [])).length = true := decide_eq_true (by simp only [List.length_cons, List.length_append, List.length_map, List.length_nil, pre_len]; omega)
    simp only [Wr.enc, List.map_cons, List.map_nil, Nat.reduceSub, List.replicate_succ, List.replicate_zero, List.cons_append, List.nil_append, exs, ex, ev, evs, List.getElem?_cons_zero, see_tup, see_str, see_lst, q2, q5, eq_of, z, zs, zs1, if_true]
    rw [List.append_nil, Wr.pre, List.map_cons, List.map_map]
    rfl
  | .to a b, n, hn, h1, h2 => by
    obtain ⟨n, rfl⟩ : ∃ m, n = m + 1 := ⟨n - 1, by omega⟩
    simp only [Wr.dp, Wr.size] at hn h1 h2
    have ih1 := placesIn_ok (S := S) a n (by omega) (by omega) (by omega)
    have ih2 := placesIn_ok (S := S) b n (by omega) (by omega) (by omega)
    obtain ⟨q1, q2, q3, q4, q5, q6, q7⟩ := sq3_T (.str "to") a.enc b.enc
    have z1 := plC_ok (k := 0) q6 (q1 S) ih1 (by omega) (by omega)
    have z2 := plC_ok (k := 1) q7 (q1 S) ih2 (by omega) (by omega)
    refine run_rts t29 rfl rfl ?_
    have zs : small ([] : List D).length = true := rfl
    have zs1 : small (D.tup [] :: ((a.pre.map fun p => D.tup (.int 0 :: p.map stp)) ++ ((b.pre.map fun p => D.tup (.int 1 :: p.map stp)) ++ []))).length = true := decide_eq_true (by simp only [List.length_cons, List.length_append, List.length_map, List.length_nil, pre_len]; omega)
    simp only [Wr.enc, List.map_cons, List.map_nil, Nat.reduceSub, List.replicate_succ, List.replicate_zero, List.cons_append, List.nil_append, exs, ex, ev, evs, List.getElem?_cons_zero, see_tup, see_str, see_lst, q2, q5, eq_to, z1, z2, zs, zs1, if_true]
    rw [List.append_nil, Wr.pre, List.map_cons, List.map_append, List.map_map, List.map_map]
    rfl
theorem t33 : T[33]? = some ⟨1, 1, b_places_of⟩ := rfl
theorem t34 : T[34]? = some ⟨2, 3, b_part_at⟩ := rfl
theorem placesOf_ok {W : Wr} {dW : D} (eW : Enc dW W) (hW : Good W) (hn : W.dp + 4 ≤ n) (h1 : W.size ≤ 5000) (h2 : W.dp ≤ 5000) (S : Sto) : run T w (n + 1) 33 [dW] S = some (.tup (W.pre.map wyT), S) := by
  obtain ⟨n, rfl⟩ : ∃ m, n = m + 1 := ⟨n - 1, by omega⟩
  refine run_rts t33 rfl rfl ?_
  have z1 := need_ok (T := T) (w := w) (n := n) t2 t12 t4 t13 (S := S) (p := .str "writing") eW hW (by omega)
  have z2 := placesIn_ok (w := w) (S := S) W (n + 1) (by omega) h1 h2
  have z3 : ∀ l : List D, biD .tuple [.lst l] = some (.tup l) := fun _ => rfl
  simp only [b_places_of, List.map_cons, List.map_nil, Nat.sub_self, List.replicate_zero, List.cons_append, List.nil_append, exs, ex, ev, evs, seeAll, List.getElem?_cons_zero, z1, z2, see_lst, z3]
theorem partAt_ok {W V : Wr} {p : List Bool} {dW dp : D} (eW : Enc dW W) (hd : dp = wyT p ∨ dp = wyL p) (hW : Good W) (h : W.at? p = some V) (hn : W.dp + 8 ≤ n) (S : Sto) : run T w (n + 1) 34 [dW, dp] S = some (V.enc, S) := by
  obtain ⟨n, rfl⟩ : ∃ m, n = m + 4 := ⟨n - 4, by omega⟩
  refine run_rts t34 rfl rfl ?_
  have z1 := need_ok (T := T) (w := w) (n := n + 3) t2 t12 t4 t13 (S := S) (p := .str "writing") eW hW (by omega)
  have z2 := needPlace_ok (w := w) (n := n) h hd S
  have z3 := partIn_ok (w := w) (n := n + 3) h S
  simp only [b_part_at, List.map_cons, List.map_nil, Nat.reduceSub, List.replicate_succ, List.replicate_zero, List.cons_append, List.nil_append, exs, ex, ev, evs, List.getElem?_cons_zero, List.getElem?_cons_succ, setT, List.set_cons_succ, List.set_cons_zero, z1, z2, z3]
end Lk03

set_option Elab.async false
set_option linter.all false
set_option maxRecDepth 100000
set_option maxHeartbeats 4000000
namespace Lk03
open PySem Iv
variable {w n : Nat}
def it7 (t : List Bool × Wr) : D := .tup [wyT t.1, t.2.enc]
structure T7 (t : List Bool × Wr) : Prop where
  nm : ∀ x ∈ t.2.names, nmOk x = true
  dp : t.2.dp ≤ 185
  le : t.1.length + t.2.dp ≤ 5000
theorem its7_ok : ∀ ts : List (List Bool × Wr), (∀ t ∈ ts, T7 t) → D.pures (ts.map it7) = true ∧ PyData.canLayAll0 (D.pys (ts.map it7)) = true ∧ PyData.depthAll (D.pys (ts.map it7)) ≤ 187
  | [], _ => ⟨rfl, rfl, Nat.zero_le _⟩
  | t :: ts, h => by
    obtain ⟨i1, i2, i3⟩ := its7_ok ts fun u hu => h u (List.mem_cons_of_mem _ hu)
    obtain ⟨h1, h2, h3⟩ := h t List.mem_cons_self
    obtain ⟨j1, j2⟩ := enc_lay t.2 h1
    refine ⟨by simp only [List.map_cons, D.pures, it7, D.pure, t.2.pure_enc, pure_wy, i1, Bool.and_self], by simp only [List.map_cons, D.pys, it7, D.py, wyT, map_stp, pys_ints, PyData.canLayAll0, PyData.canLay0, j1, lay_ints, i2, Bool.and_self], ?_⟩
    simp only [List.map_cons, D.pys, it7, D.py, wyT, map_stp, pys_ints, PyData.depthAll, PyData.depth, depth_ints]
    omega
theorem isObj_it7 : ∀ l : List (List Bool × Wr), isObj (l.map it7) = false
  | [] => rfl
  | _ :: _ => rfl
/-- the stack, its top first -/
def stk7 (ts : List (List Bool × Wr)) : List D := ts.reverse.map it7
theorem stk7_cons (t : List Bool × Wr) (ts : List (List Bool × Wr)) : stk7 (t :: ts) = stk7 ts ++ [it7 t] := by simp [stk7]
theorem isObj_stk7 (ts : List (List Bool × Wr)) : isObj (stk7 ts) = false := isObj_it7 _
theorem isObj_stk7b (ts : List (List Bool × Wr)) (t : List Bool × Wr) : isObj (stk7 ts ++ [it7 t]) = false := by rw [← stk7_cons]; exact isObj_stk7 _
theorem stk7_len (ts : List (List Bool × Wr)) : (stk7 ts).length = ts.length := by simp [stk7]
theorem stk7_ok {ts : List (List Bool × Wr)} (h : ∀ t ∈ ts, T7 t) : cmpD .NotEq (.lst (stk7 ts)) (.lst []) = some (!ts.isEmpty) := by
  obtain ⟨i1, i2, i3⟩ := its7_ok ts.reverse (fun t ht => h t (List.mem_reverse.mp ht))
  have e : D.ok (.lst (stk7 ts)) = true := by
    simp only [stk7, D.ok, D.pure, D.py, PyData.canLay0, PyData.depth, i1, i2, Bool.and_self, Bool.true_and]
    exact decide_eq_true (by omega)
  show (if _ then _ else _) = _
  rw [if_pos (by rw [e, ok_nil]; rfl), eqv_nil]
  cases ts <;> simp [stk7]
def wt7 : List (List Bool × Wr) → Nat
  | [] => 0
  | t :: ts => t.2.size + wt7 ts
theorem wt7_len : ∀ ts : List (List Bool × Wr), ts.length ≤ wt7 ts
  | [] => Nat.le_refl _
  | t :: ts => by have := wt7_len ts; have := t.2.size_pos; simp only [wt7, List.length_cons]; omega
def proc7 : List (List Bool × Wr) → List (List Bool × Wr) → List (List Bool × Wr)
  | [], fd => fd
  | t :: ts, fd => proc7 ts (fd ++ t.2.wk t.1)
theorem pop7_ok (ts : List (List Bool × Wr)) (t : List Bool × Wr) (S : Sto) (b : Option (List D)) : meD .pop (.ref S.length) [] (S ++ [some (stk7 (t :: ts)), b]) = some (it7 t, S ++ [some (stk7 ts), b]) := by
  simp only [meD, idx_p, isObj_it7, isObj_stk7, isObj_stk7b, Bool.false_eq_true, if_false, Bool.not_false, Bool.true_and, stk7_cons, List.length_append, List.length_cons, List.length_nil, Nat.add_sub_cancel, set_p, List.dropLast_concat]
  simp
def waT : Ss := (.cons (.ex (.meth .append (.v 1) (.cons (.tup (.cons (.op .Add (.v 3) (.tup (.cons (.c (.int 1)) .nil))) (.cons (.ix (.v 4) (.c (.int 2))) .nil))) .nil))) .nil)
def waI : St := (.ifs (.cmp .Eq (.ix (.v 4) (.c (.int 0))) (.c (.str "to"))) waT .nil)
def waE : St := (.ex (.meth .append (.v 1) (.cons (.tup (.cons (.op .Add (.v 3) (.tup (.cons (.c (.int 0)) .nil))) (.cons (.ite (.cmp .Eq (.ix (.v 4) (.c (.int 0))) (.c (.str "to"))) (.ix (.v 4) (.c (.int 1))) (.ix (.v 4) (.c (.int 2)))) .nil))) .nil)))
def waP : St := (.ex (.meth .append (.v 2) (.cons (.tup (.cons (.v 3) (.cons (.v 4) .nil))) .nil)))
def waS : St := (.ifs (.not (.isi (.v 4) [.str])) (.cons waI (.cons waE .nil)) .nil)
def waB : Ss := (.cons (.asg (.t [3, 4]) (.meth .pop (.v 1) .nil)) (.cons waP (.cons waS .nil)))
def waC : E := (.cmp .NotEq (.v 1) (.lst .nil))
def walkedB : Ss := (.cons (.par [1, 2] (.cons (.new (.cons (.tup (.cons (.tup .nil) (.cons (.v 0) .nil))) .nil)) (.cons (.new .nil) .nil))) (.cons (.wh waC waB) (.cons (.ret (.frz 2)) .nil)))
theorem t40 : T[40]? = some ⟨1, 5, walkedB⟩ := rfl
theorem eq_to2 : cmpD .Eq (.str "to") (.str "to") = some true := congrArg some (decide_eq_true rfl)
theorem eq_of2 : cmpD .Eq (.str "of") (.str "to") = some false := congrArg some (by decide)
theorem add_wy {q : List Bool} (c : Bool) (h : q.length ≤ 10000) : opD .Add (wyT q) (.tup [.int (bit c)]) = some (wyT (q ++ [c])) := by
  show (if _ then _ else _) = _
  rw [if_pos (by simp only [List.length_map, List.length_cons, List.length_nil, small, decide_eq_true_eq]; omega)]
  unfold wyT
  rw [List.map_append]
  rfl
/-- a turn of the loop -/
theorem wa_turn {F : CF} {x0 : D} {t : List Bool × Wr} {ts : List (List Bool × Wr)} {fd : List (List Bool × Wr)} {S : Sto} {y3 y4 : Option D} (ht : T7 t) (hts : ∀ u ∈ ts, T7 u) (hl : fd.length + wt7 (t :: ts) ≤ 20000) :
    ∃ (us : List (List Bool × Wr)) (fd' : List (List Bool × Wr)), (∀ u ∈ us, T7 u) ∧ wt7 us < wt7 (t :: ts) ∧ fd'.length + wt7 us ≤ 20000 ∧ proc7 us fd' = proc7 (t :: ts) fd ∧
      exs F w waB [some x0, some (.ref S.length), some (.ref (S.length + 1)), y3, y4] (S ++ [some (stk7 (t :: ts)), some (fd.map it7)]) =
        some (.nx [some x0, some (.ref S.length), some (.ref (S.length + 1)), some (wyT t.1), some t.2.enc], S ++ [some (stk7 us), some (fd'.map it7)]) := by
  obtain ⟨q, W⟩ := t
  obtain ⟨h1, h2, h3⟩ := ht
  have hp := pop7_ok ts (q, W) S (some (fd.map it7))
  have hw := wt7_len ts
  have hsz := W.size_pos
  simp only [wt7] at hl
  simp only at h1 h2 h3
  have hset : setT (.t [3, 4]) (it7 (q, W)) [some x0, some (.ref S.length), some (.ref (S.length + 1)), y3, y4] = some [some x0, some (.ref S.length), some (.ref (S.length + 1)), some (wyT q), some W.enc] := rfl
  have zs2 : ∀ x y : D, small [x, y].length = true := fun _ _ => rfl
  have zs1 : ∀ x : D, small [x].length = true := fun _ => rfl
  have s0 : ex F w (.asg (.t [3, 4]) (.meth .pop (.v 1) .nil)) [some x0, some (.ref S.length), some (.ref (S.length + 1)), y3, y4] (S ++ [some (stk7 ((q, W) :: ts)), some (fd.map it7)]) = some (.nx [some x0, some (.ref S.length), some (.ref (S.length + 1)), some (wyT q), some W.enc], S ++ [some (stk7 ts), some (fd.map it7)]) := by
    have hs : (see (S ++ [some (stk7 ((q, W) :: ts)), some (fd.map it7)]) (.ref S.length)).isSome = true := by simp only [see, isObj_it7, isObj_stk7, isObj_stk7b, Bool.false_eq_true, if_false, Bool.not_false, Bool.true_and, idx_p, Option.isSome_some]
    simp only [ex, ev, evs, List.getElem?_cons_zero, List.getElem?_cons_succ, hs, if_true, hp, hset]
  have s1 : ex F w waP [some x0, some (.ref S.length), some (.ref (S.length + 1)), some (wyT q), some W.enc] (S ++ [some (stk7 ts), some (fd.map it7)]) = some (.nx [some x0, some (.ref S.length), some (.ref (S.length + 1)), some (wyT q), some W.enc], S ++ [some (stk7 ts), some ((fd ++ [(q, W)]).map it7)]) := by
    have hs : (see (S ++ [some (stk7 ts), some (fd.map it7)]) (.ref (S.length + 1))).isSome = true := by simp only [see, isObj_it7, isObj_stk7, isObj_stk7b, Bool.false_eq_true, if_false, Bool.not_false, Bool.true_and, idx_q, Option.isSome_some]
    have z4 : meD .append (.ref (S.length + 1)) [.tup [wyT q, W.enc]] (S ++ [some (stk7 ts), some (fd.map it7)]) = some (.non, S ++ [some (stk7 ts), some ((fd ++ [(q, W)]).map it7)]) := by
      have zp : D.pure (.tup [wyT q, W.enc]) = true := by simp only [D.pure, D.pures, W.pure_enc, pure_wy, Bool.and_self]
      have zl : small ((fd.map it7).length + 1) = true := decide_eq_true (by rw [List.length_map]; omega)
      simp only [meD, isObj_it7, isObj_stk7, isObj_stk7b, Bool.false_eq_true, if_false, Bool.not_false, Bool.true_and, idx_q, zp, zl, Bool.and_self, if_true, set_q, List.map_append, List.map_cons, List.map_nil, it7]
    simp only [waP, ex, ev, evs, List.getElem?_cons_zero, List.getElem?_cons_succ, hs, zs2, if_true, z4]
  have fin : ∀ {us : List (List Bool × Wr)}, ex F w waS [some x0, some (.ref S.length), some (.ref (S.length + 1)), some (wyT q), some W.enc] (S ++ [some (stk7 ts), some ((fd ++ [(q, W)]).map it7)]) = some (.nx [some x0, some (.ref S.length), some (.ref (S.length + 1)), some (wyT q), some W.enc], S ++ [some (stk7 us), some ((fd ++ [(q, W)]).map it7)]) →
      exs F w waB [some x0, some (.ref S.length), some (.ref (S.length + 1)), y3, y4] (S ++ [some (stk7 ((q, W) :: ts)), some (fd.map it7)]) =
        some (.nx [some x0, some (.ref S.length), some (.ref (S.length + 1)), some (wyT q), some W.enc], S ++ [some (stk7 us), some ((fd ++ [(q, W)]).map it7)]) := fun e => by
    simp only [waB, exs, s0, s1, e]
  have put : ∀ (us : List (List Bool × Wr)) (r : List Bool) (V : Wr) (gd : Option (List D)), us.length ≤ 20000 → meD .append (.ref S.length) [.tup [wyT r, V.enc]] (S ++ [some (stk7 us), gd]) = some (.non, S ++ [some (stk7 ((r, V) :: us)), gd]) := fun us r V gd hu => by
    have zp : D.pure (.tup [wyT r, V.enc]) = true := by simp only [D.pure, D.pures, V.pure_enc, pure_wy, Bool.and_self]
    have zl : small ((stk7 us).length + 1) = true := decide_eq_true (by rw [stk7_len]; omega)
    simp only [meD, isObj_it7, isObj_stk7, isObj_stk7b, Bool.false_eq_true, if_false, Bool.not_false, Bool.true_and, idx_p, zp, zl, Bool.and_self, if_true, set_p, stk7_cons, it7]
  have hs : ∀ (us : List (List Bool × Wr)) (gd : Option (List D)), (see (S ++ [some (stk7 us), gd]) (.ref S.length)).isSome = true := fun us gd => by simp only [see, isObj_it7, isObj_stk7, isObj_stk7b, Bool.false_eq_true, if_false, Bool.not_false, Bool.true_and, idx_p, Option.isSome_some]
  have a0 : ∀ S, see S (wyT q) = some (wyT q) := fun _ => rfl
  cases W with
  | nm x =>
    refine ⟨ts, fd ++ [(q, .nm x)], hts, by simp only [wt7, Wr.size]; omega, by simp only [Wr.size] at hl; simp only [List.length_append, List.length_cons, List.length_nil]; omega, rfl, fin ?_⟩
    have z0 : [Ty.str].any (isTy (.str x)) = true := rfl
    simp only [waS, ex, exs, ev, Wr.enc, see_str, List.getElem?_cons_zero, List.getElem?_cons_succ, z0, Bool.not_true]
  | of x b =>
    simp only [Wr.size, Wr.dp] at hl h2 h3
    obtain ⟨q1, q2, q3, q4, q5, q6, q7⟩ := sq3_T (.str "of") (.str x) b.enc
    refine ⟨(q ++ [false], b) :: ts, fd ++ [(q, .of x b)], fun u hu => ?_, by simp only [wt7, Wr.size]; omega, by simp only [wt7, List.length_append, List.length_cons, List.length_nil]; omega, by simp only [proc7, Wr.wk, List.append_assoc, List.cons_append, List.nil_append], fin ?_⟩
    · rcases List.mem_cons.mp hu with rfl | hu
      · exact ⟨fun y hy => h1 y (List.mem_cons_of_mem _ hy), by show b.dp ≤ 185; omega, by show (q ++ [false]).length + b.dp ≤ 5000; simp only [List.length_append, List.length_cons, List.length_nil]; omega⟩
      · exact hts u hu
    · have z1 : opD .Add (wyT q) (.tup [.int 0]) = some (wyT (q ++ [false])) := add_wy false (by omega)
      have z4 := put ts (q ++ [false]) b (some ((fd ++ [(q, Wr.of x b)]).map it7)) (by omega)
      simp only [waS, waI, waE, ex, exs, ev, evs, Wr.enc, see_str, see_tup, a0, q2, q5, q7, eq_of2, List.getElem?_cons_zero, List.getElem?_cons_succ, Bool.not_false, hs, zs1, zs2, if_true, z1, z4]
  | to a b =>
    simp only [Wr.size, Wr.dp] at hl h2 h3
    obtain ⟨q1, q2, q3, q4, q5, q6, q7⟩ := sq3_T (.str "to") a.enc b.enc
    refine ⟨(q ++ [false], a) :: (q ++ [true], b) :: ts, fd ++ [(q, .to a b)], fun u hu => ?_, by simp only [wt7, Wr.size]; omega, by simp only [wt7, List.length_append, List.length_cons, List.length_nil]; omega, by simp only [proc7, Wr.wk, List.append_assoc, List.cons_append, List.nil_append], fin ?_⟩
    · rcases List.mem_cons.mp hu with rfl | hu
      · exact ⟨fun y hy => h1 y (List.mem_append_left _ hy), by show a.dp ≤ 185; omega, by show (q ++ [false]).length + a.dp ≤ 5000; simp only [List.length_append, List.length_cons, List.length_nil]; omega⟩
      · rcases List.mem_cons.mp hu with rfl | hu
        · exact ⟨fun y hy => h1 y (List.mem_append_right _ hy), by show b.dp ≤ 185; omega, by show (q ++ [true]).length + b.dp ≤ 5000; simp only [List.length_append, List.length_cons, List.length_nil]; omega⟩
        · exact hts u hu
    · have z1 : opD .Add (wyT q) (.tup [.int 0]) = some (wyT (q ++ [false])) := add_wy false (by omega)
      have z2 : opD .Add (wyT q) (.tup [.int 1]) = some (wyT (q ++ [true])) := add_wy true (by omega)
      have z3 := put ts (q ++ [true]) b (some ((fd ++ [(q, Wr.to a b)]).map it7)) (by omega)
      have z4 := put ((q ++ [true], b) :: ts) (q ++ [false]) a (some ((fd ++ [(q, Wr.to a b)]).map it7)) (by simp only [List.length_cons]; omega)
      simp only [waS, waI, waT, waE, ex, exs, ev, evs, Wr.enc, see_str, see_tup, a0, q2, q5, q6, q7, eq_to2, List.getElem?_cons_zero, List.getElem?_cons_succ, Bool.not_false, hs, zs1, zs2, if_true, z1, z2, z3, z4]
theorem wa_loop {F : CF} {x0 : D} {S : Sto} : ∀ (k : Nat) (ts fd : List (List Bool × Wr)) (y3 y4 : Option D), wt7 ts < k → (∀ u ∈ ts, T7 u) → fd.length + wt7 ts ≤ 20000 →
    ∃ y3' y4', whRun (fun ρ S => ev F waC ρ S) (fun ρ S => exs F w waB ρ S) k [some x0, some (.ref S.length), some (.ref (S.length + 1)), y3, y4] (S ++ [some (stk7 ts), some (fd.map it7)]) =
      some (.nx [some x0, some (.ref S.length), some (.ref (S.length + 1)), y3', y4'], S ++ [some [], some ((proc7 ts fd).map it7)])
  | 0, ts, fd, y3, y4, hk, hts, hl => absurd hk (Nat.not_lt_zero _)
  | k + 1, [], fd, y3, y4, hk, hts, hl => by
    have z := stk7_ok (ts := []) (by simp)
    have z3 : see (S ++ [some (stk7 []), some (fd.map it7)]) (.ref S.length) = some (.lst (stk7 [])) := by simp only [see, isObj_it7, isObj_stk7, isObj_stk7b, Bool.false_eq_true, if_false, Bool.not_false, Bool.true_and, idx_p]
    have zs : small ([] : List D).length = true := rfl
    refine ⟨y3, y4, ?_⟩
    simp only [whRun, waC, ev, evs, List.getElem?_cons_zero, List.getElem?_cons_succ, zs, if_true, z3, see_lst, z, List.isEmpty_nil, Bool.not_true]
    rfl
  | k + 1, t :: ts, fd, y3, y4, hk, hts, hl => by
    obtain ⟨us, fd', h1, h2, h3, h4, h5⟩ := wa_turn (F := F) (w := w) (x0 := x0) (S := S) (y3 := y3) (y4 := y4) (hts t List.mem_cons_self) (fun u hu => hts u (List.mem_cons_of_mem _ hu)) hl
    obtain ⟨y3', y4', e⟩ := wa_loop (F := F) (x0 := x0) (S := S) k us fd' (some (wyT t.1)) (some t.2.enc) (by omega) h1 h3
    have z := stk7_ok (ts := t :: ts) hts
    have z3 : see (S ++ [some (stk7 (t :: ts)), some (fd.map it7)]) (.ref S.length) = some (.lst (stk7 (t :: ts))) := by simp only [see, isObj_it7, isObj_stk7, isObj_stk7b, Bool.false_eq_true, if_false, Bool.not_false, Bool.true_and, idx_p]
    have zs : small ([] : List D).length = true := rfl
    refine ⟨y3', y4', ?_⟩
    rw [h4] at e
    rw [whRun]
    have ec : ev F waC [some x0, some (.ref S.length), some (.ref (S.length + 1)), y3, y4] (S ++ [some (stk7 (t :: ts)), some (fd.map it7)]) = some (.bl true, S ++ [some (stk7 (t :: ts)), some (fd.map it7)]) := by
      simp only [waC, ev, evs, List.getElem?_cons_zero, List.getElem?_cons_succ, zs, if_true, z3, see_lst, z, List.isEmpty_cons, Bool.not_false]
    simp only [ec, h5]
    exact e
theorem walked_ok {W : Wr} (hW : Good W) (hd : W.dp ≤ 185) (hs : W.size ≤ 5000) (hw : 10000 ≤ w) (S : Sto) (hc : clo S) : run T w (n + 1) 40 [W.enc] S = some (.lst ((W.wk []).map it7), S) := by
  obtain ⟨y3, y4, e⟩ := wa_loop (F := run T w n) (w := w) (x0 := W.enc) (S := S) w [([], W)] [] none none (by simp only [wt7]; omega) (fun u hu => by rw [List.mem_singleton.mp hu]; exact ⟨hW, hd, by show 0 + W.dp ≤ 5000; omega⟩) (by simp only [wt7, List.length_nil]; omega)
  have e1 : proc7 [([], W)] [] = W.wk [] := rfl
  rw [e1] at e
  have e2 : stk7 [([], W)] = [.tup [.tup [], W.enc]] := rfl
  rw [e2] at e
  have zs : ∀ x y : D, small [x, y].length = true := fun _ _ => rfl
  have zs1 : ∀ x : D, small [x].length = true := fun _ => rfl
  have zs0 : small ([] : List D).length = true := rfl
  have zp : D.pures [.tup [.tup [], W.enc]] = true := by simp only [D.pures, D.pure, W.pure_enc, Bool.and_self]
  have zq : D.pures [] = true := rfl
  have zs12 : small [1, 2].length = true := rfl
  have zt : ∀ x y : D, [x, y].length = [1, 2].length := fun _ _ => rfl
  have zl : (S ++ [some [D.tup [.tup [], W.enc]]]).length = S.length + 1 := by simp
  have za : S ++ [some [D.tup [.tup [], W.enc]]] ++ [some []] = S ++ [some [.tup [.tup [], W.enc]], some []] := by simp
  rw [run_rt t40 rfl (d := .lst ((W.wk []).map it7)) (S1 := S ++ [some [], none])]
  · have hp : D.pure (.lst ((W.wk []).map it7)) = true := by
      show D.pures _ = true
      refine (its7_ok (W.wk []) fun t ht => ?_).1
      obtain ⟨r, a1, a2⟩ := wk_at W [] t ht
      obtain ⟨_, _, b3, b4, _, b6⟩ := put_size r W t.2 W a2
      exact ⟨fun x hx => hW x (b6 x hx), by omega, by rw [a1]; simp only [List.nil_append]; omega⟩
    rw [leave_clo hc hp]
  · have e' : whRun (fun ρ S => ev (run T w n) waC ρ S) (fun ρ S => exs (run T w n) w waB ρ S) w [some W.enc, some (.ref S.length), some (.ref (S.length + 1)), none, none] (S ++ [some [.tup [.tup [], W.enc]], some []]) = _ := e
    simp only [walkedB, List.map_cons, List.map_nil, Nat.reduceSub, List.replicate_succ, List.replicate_zero, List.cons_append, List.nil_append, exs, ex, ev, evs, List.getElem?_cons_zero, zs, zs1, zs0, zp, zq, mkList, if_true, zl, za, zt, zs12, eq_self, List.zip_cons_cons, List.zip_nil_right, List.foldl_cons, List.foldl_nil, List.set_cons_succ, List.set_cons_zero]
    simp only [e', isObj_it7, Bool.false_eq_true, if_false, List.getElem?_cons_zero, List.getElem?_cons_succ, idx_q, set_q]
end Lk03

set_option Elab.async false
set_option linter.all false
set_option maxRecDepth 100000
set_option maxHeartbeats 4000000
namespace Lk03
open PySem Iv
variable {w n : Nat} {S : Sto}
theorem zs0 : small ([] : List D).length = true := rfl
theorem zs1 (a : D) : small [a].length = true := rfl
theorem zs2 (a b : D) : small [a, b].length = true := rfl
theorem zs3 (a b c : D) : small [a, b, c].length = true := rfl
theorem any_s (x : Str) : [Ty.str].any (isTy (.str x)) = true := rfl
theorem eqTT : cmpD .Eq (.str "to") (.str "to") = some true := by decide
theorem eqOT : cmpD .Eq (.str "of") (.str "to") = some false := by decide
theorem eqOO : cmpD .Eq (.str "of") (.str "of") = some true := by decide
theorem eqTO : cmpD .Eq (.str "to") (.str "of") = some false := by decide
theorem t14 : T[14]? = some ⟨1, 1, b_signs_in⟩ := rfl
theorem t15 : T[15]? = some ⟨1, 1, b_layers_in⟩ := rfl
theorem t23 : T[23]? = some ⟨1, 1, b_items_of⟩ := rfl
theorem t24 : T[24]? = some ⟨1, 1, b_signs_of⟩ := rfl
theorem t25 : T[25]? = some ⟨1, 1, b_layers_of⟩ := rfl
theorem t27 : T[27]? = some ⟨1, 1, b_writing_text⟩ := rfl
theorem signsIn_ok : ∀ (W : Wr) (n : Nat), W.dp + 1 ≤ n → run T w n 14 [W.enc] S = some (.int W.size, S)
  | .nm x, n, hn => by
    obtain ⟨n, rfl⟩ : ∃ m, n = m + 1 := ⟨n - 1, by omega⟩
    refine run_rts t14 rfl rfl ?_
    simp only [b_signs_in, Wr.enc, List.map_cons, List.map_nil, Nat.sub_self, List.replicate_zero, List.append_nil, exs, ex, ev, see_str, List.getElem?_cons_zero, any_s]
    rfl
  | .of x b, n, hn => by
    obtain ⟨n, rfl⟩ : ∃ m, n = m + 1 := ⟨n - 1, by omega⟩
    simp only [Wr.dp] at hn
    have ih := signsIn_ok b n (by omega)
    obtain ⟨q1, q2, q3, q4, q5, q6, q7⟩ := sq3_T (.str "of") (.str x) b.enc
    refine run_rts t14 rfl rfl ?_
    simp only [b_signs_in, Wr.enc, List.map_cons, List.map_nil, Nat.sub_self, List.replicate_zero, List.append_nil, exs, ex, ev, evs, see_str, see_int, see_tup, List.getElem?_cons_zero, q2, q5, q6, q7, ih, eqOT, op_add, Wr.size]
    congr 4
    omega
  | .to a b, n, hn => by
    obtain ⟨n, rfl⟩ : ∃ m, n = m + 1 := ⟨n - 1, by omega⟩
    simp only [Wr.dp] at hn
    have ih1 := signsIn_ok a n (by omega)
    have ih2 := signsIn_ok b n (by omega)
    obtain ⟨q1, q2, q3, q4, q5, q6, q7⟩ := sq3_T (.str "to") a.enc b.enc
    refine run_rts t14 rfl rfl ?_
    simp only [b_signs_in, Wr.enc, List.map_cons, List.map_nil, Nat.sub_self, List.replicate_zero, List.append_nil, exs, ex, ev, evs, see_str, see_int, see_tup, List.getElem?_cons_zero, q2, q5, q6, q7, ih1, ih2, eqTT, op_add, Wr.size]
    congr 4
    omega
theorem max2_int (i j : Int) : biD .max2 [.int i, .int j] = some (.int (max i j)) := by
  show some (D.int (if j > i then j else i)) = _
  congr 2
  omega
theorem layersIn_nm (x : Str) : run T w (n + 1) 15 [.str x] S = some (.int 1, S) := by
  refine run_rts t15 rfl rfl ?_
  simp only [b_layers_in, List.map_cons, List.map_nil, Nat.sub_self, List.replicate_zero, List.append_nil, exs, ex, ev, see_str, List.getElem?_cons_zero, any_s]
theorem layersIn_ok : ∀ (W : Wr) (n : Nat), W.dp + 1 ≤ n → run T w n 15 [W.enc] S = some (.int (W.dp + 1 : Nat), S)
  | .nm x, n, hn => by
    obtain ⟨n, rfl⟩ : ∃ m, n = m + 1 := ⟨n - 1, by omega⟩
    exact layersIn_nm x
  | .of x b, n, hn => by
    obtain ⟨n, rfl⟩ : ∃ m, n = m + 1 := ⟨n - 1, by omega⟩
    simp only [Wr.dp] at hn
    have ih := layersIn_ok b n (by omega)
    obtain ⟨n, rfl⟩ : ∃ m, n = m + 1 := ⟨n - 1, by omega⟩
    have ih0 := layersIn_nm (w := w) (n := n) (S := S) x
    obtain ⟨q1, q2, q3, q4, q5, q6, q7⟩ := sq3_T (.str "of") (.str x) b.enc
    refine run_rts t15 rfl rfl ?_
    simp only [b_layers_in, Wr.enc, List.map_cons, List.map_nil, Nat.sub_self, List.replicate_zero, List.append_nil, exs, ex, ev, evs, seeAll, see_str, see_int, see_tup, List.getElem?_cons_zero, q2, q5, q6, q7, ih, ih0, max2_int, op_add, Wr.dp]
    congr 4
    omega
  | .to a b, n, hn => by
    obtain ⟨n, rfl⟩ : ∃ m, n = m + 1 := ⟨n - 1, by omega⟩
    simp only [Wr.dp] at hn
    have ih1 := layersIn_ok a n (by omega)
    have ih2 := layersIn_ok b n (by omega)
    obtain ⟨q1, q2, q3, q4, q5, q6, q7⟩ := sq3_T (.str "to") a.enc b.enc
    refine run_rts t15 rfl rfl ?_
    simp only [b_layers_in, Wr.enc, List.map_cons, List.map_nil, Nat.sub_self, List.replicate_zero, List.append_nil, exs, ex, ev, evs, seeAll, see_str, see_int, see_tup, List.getElem?_cons_zero, q2, q5, q6, q7, ih1, ih2, max2_int, op_add, Wr.dp]
    congr 4
    omega
def its : Wr → List Str
  | .nm x => [x]
  | .of x b => "of" :: x :: its b
  | .to a b => "to" :: (its a ++ its b)
theorem its_len : ∀ W : Wr, (its W).length ≤ 2 * W.size ∧ 1 ≤ (its W).length
  | .nm x => ⟨by simp [its, Wr.size], by simp [its]⟩
  | .of x b => by have := its_len b; simp only [its, Wr.size, List.length_cons]; omega
  | .to a b => by have := its_len a; have := its_len b; simp only [its, Wr.size, List.length_cons, List.length_append]; omega
theorem its_in : ∀ W : Wr, ∀ x ∈ its W, x ∈ W.names ∨ x = "of" ∨ x = "to"
  | .nm x, y, h => .inl h
  | .of x b, y, h => by
    rcases List.mem_cons.mp h with rfl | h
    · exact .inr (.inl rfl)
    · rcases List.mem_cons.mp h with rfl | h
      · exact .inl List.mem_cons_self
      · exact (its_in b y h).imp (List.mem_cons_of_mem _) id
  | .to a b, y, h => by
    rcases List.mem_cons.mp h with rfl | h
    · exact .inr (.inr rfl)
    · rcases List.mem_append.mp h with h | h
      · exact (its_in a y h).imp (List.mem_append_left _) id
      · exact (its_in b y h).imp (List.mem_append_right _) id
theorem nm_not {x : Str} (h : nmOk x = true) : x ≠ "of" ∧ x ≠ "to" ∧ 1 ≤ x.length ∧ x.length ≤ 12 := by
  unfold nmOk at h
  simp only [Bool.and_eq_true, decide_eq_true_eq, Bool.not_eq_true', decide_eq_false_iff_not] at h
  exact ⟨h.1.1.1.2, h.1.1.2, h.1.1.1.1.1, h.1.1.1.1.2⟩
theorem its_size : ∀ W : Wr, Good W → ((its W).filter fun x : Str => !decide (x = ("of" : Str))).length = W.size
  | .nm x, h => by
    have := (nm_not (h x List.mem_cons_self)).1
    simp [its, this, Wr.size]
  | .of x b, h => by
    have h1 := (nm_not (h x List.mem_cons_self)).1
    have := its_size b fun y hy => h y (List.mem_cons_of_mem _ hy)
    simp only [its, Wr.size]
    rw [List.filter_cons, if_neg (by simp), List.filter_cons, if_pos (by simp [h1]), List.length_cons, this]
  | .to a b, h => by
    have e1 := its_size a fun y hy => h y (List.mem_append_left _ hy)
    have e2 := its_size b fun y hy => h y (List.mem_append_right _ hy)
    simp only [its, Wr.size]
    rw [List.filter_cons, if_pos (by decide), List.length_cons, List.filter_append, List.length_append, e1, e2]
theorem itemsOf_nm (x : Str) : run T w (n + 1) 23 [.str x] S = some (.lst [.str x], S) := by
  refine run_rts t23 rfl rfl ?_
  simp only [b_items_of, List.map_cons, List.map_nil, Nat.sub_self, List.replicate_zero, List.append_nil, exs, ex, ev, evs, see_str, List.getElem?_cons_zero, any_s, zs1, if_true]
theorem itemsOf_ok : ∀ (W : Wr) (n : Nat), W.dp + 1 ≤ n → W.size ≤ 10000 → run T w n 23 [W.enc] S = some (.lst ((its W).map D.str), S)
  | .nm x, n, hn, _ => by
    obtain ⟨n, rfl⟩ : ∃ m, n = m + 1 := ⟨n - 1, by omega⟩
    exact itemsOf_nm x
  | .of x b, n, hn, hs => by
    obtain ⟨n, rfl⟩ : ∃ m, n = m + 1 := ⟨n - 1, by omega⟩
    simp only [Wr.dp] at hn
    simp only [Wr.size] at hs
    have ih := itemsOf_ok b n (by omega) (by omega)
    have hl := its_len b
    obtain ⟨n, rfl⟩ : ∃ m, n = m + 1 := ⟨n - 1, by omega⟩
    have ih0 := itemsOf_nm (w := w) (n := n) (S := S) x
    obtain ⟨q1, q2, q3, q4, q5, q6, q7⟩ := sq3_T (.str "of") (.str x) b.enc
    have sm : small (D.str "of" :: ([D.str x] ++ ((its b).map D.str ++ []))).length = true := decide_eq_true (by simp only [List.length_cons, List.length_append, List.length_map, List.length_nil]; omega)
    refine run_rts t23 rfl rfl ?_
    simp only [b_items_of, Wr.enc, List.map_cons, List.map_nil, Nat.sub_self, List.replicate_zero, List.append_nil, exs, ex, ev, evs, see_str, see_tup, see_lst, List.getElem?_cons_zero, q2, q5, q6, q7, ih, ih0, its]
    rw [List.append_nil] at sm
    rw [if_pos sm]
    rfl
  | .to a b, n, hn, hs => by
    obtain ⟨n, rfl⟩ : ∃ m, n = m + 1 := ⟨n - 1, by omega⟩
    simp only [Wr.dp] at hn
    simp only [Wr.size] at hs
    have ih1 := itemsOf_ok a n (by omega) (by omega)
    have ih2 := itemsOf_ok b n (by omega) (by omega)
    have hl1 := its_len a
    have hl2 := its_len b
    obtain ⟨q1, q2, q3, q4, q5, q6, q7⟩ := sq3_T (.str "to") a.enc b.enc
    have sm : small (D.str "to" :: ((its a).map D.str ++ ((its b).map D.str ++ []))).length = true := decide_eq_true (by simp only [List.length_cons, List.length_append, List.length_map, List.length_nil]; omega)
    refine run_rts t23 rfl rfl ?_
    simp only [b_items_of, Wr.enc, List.map_cons, List.map_nil, Nat.sub_self, List.replicate_zero, List.append_nil, exs, ex, ev, evs, see_str, see_tup, see_lst, List.getElem?_cons_zero, q2, q5, q6, q7, ih1, ih2, its]
    rw [List.append_nil] at sm
    rw [if_pos sm]
    simp only [List.map_append]
/-- the law's own items -/
def stkI (ts : List Wr) : List D := ts.reverse.map Wr.enc
theorem isObj_enc : ∀ l : List Wr, isObj (l.map Wr.enc) = false
  | [] => rfl
  | .nm _ :: _ => rfl
  | .of _ _ :: _ => rfl
  | .to _ _ :: _ => rfl
theorem isObj_stkI (ts : List Wr) : isObj (stkI ts) = false := isObj_enc _
theorem stkI_cons (t : Wr) (ts : List Wr) : stkI (t :: ts) = stkI ts ++ [t.enc] := by simp [stkI]
theorem stkI_len (ts : List Wr) : (stkI ts).length = ts.length := by simp [stkI]
def wtI : List Wr → Nat
  | [] => 0
  | t :: ts => t.size + wtI ts
theorem wtI_len : ∀ ts : List Wr, ts.length ≤ wtI ts
  | [] => Nat.le_refl _
  | t :: ts => by have := wtI_len ts; have := t.size_pos; simp only [wtI, List.length_cons]; omega
structure TI (t : Wr) : Prop where
  nm : Good t
  dp : t.dp ≤ 185
theorem encs_ok : ∀ ts : List Wr, (∀ t ∈ ts, TI t) → D.pures (ts.map Wr.enc) = true ∧ PyData.canLayAll0 (D.pys (ts.map Wr.enc)) = true ∧ PyData.depthAll (D.pys (ts.map Wr.enc)) ≤ 186
  | [], _ => ⟨rfl, rfl, Nat.zero_le _⟩
  | t :: ts, h => by
    obtain ⟨i1, i2, i3⟩ := encs_ok ts fun u hu => h u (List.mem_cons_of_mem _ hu)
    obtain ⟨h1, h2⟩ := h t List.mem_cons_self
    obtain ⟨j1, j2⟩ := enc_lay t h1
    refine ⟨by simp only [List.map_cons, D.pures, t.pure_enc, i1, Bool.and_self], by simp only [List.map_cons, D.pys, PyData.canLayAll0, j1, i2, Bool.and_self], ?_⟩
    simp only [List.map_cons, D.pys, PyData.depthAll]
    omega
theorem stkI_ok {ts : List Wr} (h : ∀ t ∈ ts, TI t) : cmpD .NotEq (.lst (stkI ts)) (.lst []) = some (!ts.isEmpty) := by
  obtain ⟨i1, i2, i3⟩ := encs_ok ts.reverse (fun t ht => h t (List.mem_reverse.mp ht))
  have e : D.ok (.lst (stkI ts)) = true := by
    simp only [stkI, D.ok, D.pure, D.py, PyData.canLay0, PyData.depth, i1, i2, Bool.and_self, Bool.true_and]
    exact decide_eq_true (by omega)
  show (if _ then _ else _) = _
  rw [if_pos (by rw [e, ok_nil]; rfl), eqv_nil]
  cases ts <;> simp [stkI]
def procI : List Wr → List Str → List Str
  | [], fd => fd
  | t :: ts, fd => procI ts (fd ++ its t)
theorem popI_ok (ts : List Wr) (t : Wr) (S : Sto) (b : Option (List D)) : meD .pop (.ref S.length) [] (S ++ [some (stkI (t :: ts)), b]) = some (t.enc, S ++ [some (stkI ts), b]) := by
  simp only [meD, idx_p, isObj_stkI, Bool.false_eq_true, if_false]
  simp only [stkI_cons, List.length_append, List.length_cons, List.length_nil, Nat.add_sub_cancel, set_p, List.dropLast_concat]
  simp
def liC : E := (.cmp .NotEq (.v 1) (.lst .nil))
def liN : Ss := (.cons (.ex (.meth .append (.v 2) (.cons (.v 3) .nil))) .nil)
def liO : Ss := (.cons (.ex (.meth .extend (.v 2) (.cons (.lst (.cons (.c (.str "of")) (.cons (.ix (.v 3) (.c (.int 1))) .nil))) .nil))) (.cons (.ex (.meth .append (.v 1) (.cons (.ix (.v 3) (.c (.int 2))) .nil))) .nil))
def liT : Ss := (.cons (.ex (.meth .append (.v 2) (.cons (.c (.str "to")) .nil))) (.cons (.ex (.meth .extend (.v 1) (.cons (.lst (.cons (.ix (.v 3) (.c (.int 2))) (.cons (.ix (.v 3) (.c (.int 1))) .nil))) .nil))) .nil))
def liI : St := (.ifs (.isi (.v 3) [.str]) liN (.cons (.ifs (.cmp .Eq (.ix (.v 3) (.c (.int 0))) (.c (.str "of"))) liO liT) .nil))
def liB : Ss := (.cons (.asg (.n 3) (.meth .pop (.v 1) .nil)) (.cons liI .nil))
theorem t41 : T[41]? = some ⟨1, 4, (.cons (.par [1, 2] (.cons (.new (.cons (.v 0) .nil)) (.cons (.new .nil) .nil))) (.cons (.wh liC liB) (.cons (.ret (.frz 2)) .nil)))⟩ := rfl
theorem li_turn {F : CF} {x0 : D} {t : Wr} {ts : List Wr} {fd : List Str} {y3 : Option D} (ht : TI t) (hts : ∀ u ∈ ts, TI u) (hl : fd.length + 2 * wtI (t :: ts) ≤ 40000) :
    ∃ (us : List Wr) (fd' : List Str), (∀ u ∈ us, TI u) ∧ wtI us < wtI (t :: ts) ∧ fd'.length + 2 * wtI us ≤ 40000 ∧ procI us fd' = procI (t :: ts) fd ∧
      exs F w liB [some x0, some (.ref S.length), some (.ref (S.length + 1)), y3] (S ++ [some (stkI (t :: ts)), some (fd.map D.str)]) =
        some (.nx [some x0, some (.ref S.length), some (.ref (S.length + 1)), some t.enc], S ++ [some (stkI us), some (fd'.map D.str)]) := by
  obtain ⟨h1, h2⟩ := ht
  have hp := popI_ok ts t S (some (fd.map D.str))
  have hw := wtI_len ts
  have hsz := t.size_pos
  simp only [wtI] at hl
  have see1 : ∀ (us : List Wr) (g : Option (List D)), (see (S ++ [some (stkI us), g]) (.ref S.length)).isSome = true := fun us g => by
    simp only [see, idx_p, isObj_stkI, Bool.false_eq_true, if_false, Option.isSome_some]
  have see2 : ∀ (g : Option (List D)) (l : List Str), (see (S ++ [g, some (l.map D.str)]) (.ref (S.length + 1))).isSome = true := fun g l => by
    simp only [see, idx_q, isObj_strs, Bool.false_eq_true, if_false, Option.isSome_some]
  have s0 : ex F w (.asg (.n 3) (.meth .pop (.v 1) .nil)) [some x0, some (.ref S.length), some (.ref (S.length + 1)), y3] (S ++ [some (stkI (t :: ts)), some (fd.map D.str)]) = some (.nx [some x0, some (.ref S.length), some (.ref (S.length + 1)), some t.enc], S ++ [some (stkI ts), some (fd.map D.str)]) := by
    simp only [ex, ev, evs, List.getElem?_cons_zero, List.getElem?_cons_succ, see1, if_true, hp, setT, List.set_cons_succ, List.set_cons_zero]
  have app1 : ∀ (us : List Wr) (V : Wr) (g : Option (List D)), us.length ≤ 40000 → meD .append (.ref S.length) [V.enc] (S ++ [some (stkI us), g]) = some (.non, S ++ [some (stkI (V :: us)), g]) := fun us V g hu => by
    have zl : small ((stkI us).length + 1) = true := decide_eq_true (by rw [stkI_len]; omega)
    simp only [meD, idx_p, isObj_stkI, zl, Bool.not_false, Bool.and_self, if_true, set_p, stkI_cons]
  have ext1 : ∀ (us : List Wr) (V U : Wr) (g : Option (List D)), us.length ≤ 40000 → meD .extend (.ref S.length) [.lst [V.enc, U.enc]] (S ++ [some (stkI us), g]) = some (.non, S ++ [some (stkI (U :: V :: us)), g]) := fun us V U g hu => by
    have zl : small ((stkI us).length + [V.enc, U.enc].length) = true := decide_eq_true (by rw [stkI_len]; simp only [List.length_cons, List.length_nil]; omega)
    have zc : stkI (U :: V :: us) = stkI us ++ [V.enc, U.enc] := by rw [stkI_cons, stkI_cons, List.append_assoc]; rfl
    simp only [meD, idx_p, isObj_stkI, zl, Bool.not_false, Bool.and_self, if_true, set_p, zc]
  have app2 : ∀ (g : Option (List D)) (l : List Str) (x : Str), l.length ≤ 50000 → meD .append (.ref (S.length + 1)) [.str x] (S ++ [g, some (l.map D.str)]) = some (.non, S ++ [g, some ((l ++ [x]).map D.str)]) := fun g l x hu => by
    have zl : small ((l.map D.str).length + 1) = true := decide_eq_true (by rw [List.length_map]; omega)
    simp only [meD, idx_q, isObj_strs, zl, Bool.not_false, Bool.and_self, if_true, set_q, List.map_append, List.map_cons, List.map_nil]
  have ext2 : ∀ (g : Option (List D)) (l : List Str) (x y : Str), l.length ≤ 50000 → meD .extend (.ref (S.length + 1)) [.lst [.str x, .str y]] (S ++ [g, some (l.map D.str)]) = some (.non, S ++ [g, some ((l ++ [x, y]).map D.str)]) := fun g l x y hu => by
    have zl : small ((l.map D.str).length + [D.str x, D.str y].length) = true := decide_eq_true (by rw [List.length_map]; simp only [List.length_cons, List.length_nil]; omega)
    simp only [meD, idx_q, isObj_strs, zl, Bool.not_false, Bool.and_self, if_true, set_q, List.map_append, List.map_cons, List.map_nil]
  have fin : ∀ {us : List Wr} {fd' : List Str}, ex F w liI [some x0, some (.ref S.length), some (.ref (S.length + 1)), some t.enc] (S ++ [some (stkI ts), some (fd.map D.str)]) = some (.nx [some x0, some (.ref S.length), some (.ref (S.length + 1)), some t.enc], S ++ [some (stkI us), some (fd'.map D.str)]) →
      exs F w liB [some x0, some (.ref S.length), some (.ref (S.length + 1)), y3] (S ++ [some (stkI (t :: ts)), some (fd.map D.str)]) =
        some (.nx [some x0, some (.ref S.length), some (.ref (S.length + 1)), some t.enc], S ++ [some (stkI us), some (fd'.map D.str)]) := fun e => by
    rw [liB, exs, s0]
    simp only []
    rw [exs, e]
    rfl
  cases t with
  | nm x =>
    simp only [Wr.size] at hl
    refine ⟨ts, fd ++ [x], hts, by simp only [wtI, Wr.size]; omega, by simp only [List.length_append, List.length_cons, List.length_nil]; omega, rfl, fin ?_⟩
    have z := app2 (some (stkI ts)) fd x (by omega)
    simp only [liI, liN, ex, exs, ev, evs, Wr.enc, see_str, List.getElem?_cons_zero, List.getElem?_cons_succ, any_s, see2, if_true, z]
  | of x b =>
    simp only [Wr.size, Wr.dp] at hl h2
    obtain ⟨q1, q2, q3, q4, q5, q6, q7⟩ := sq3_T (.str "of") (.str x) b.enc
    refine ⟨b :: ts, fd ++ [("of" : Str), x], fun u hu => ?_, by simp only [wtI, Wr.size]; omega, by simp only [wtI, List.length_append, List.length_cons, List.length_nil]; omega, by simp only [procI, its, List.append_assoc, List.cons_append, List.nil_append], fin ?_⟩
    · rcases List.mem_cons.mp hu with rfl | hu
      · exact ⟨fun y hy => h1 y (List.mem_cons_of_mem _ hy), by omega⟩
      · exact hts u hu
    · have z := ext2 (some (stkI ts)) fd ("of" : Str) x (by omega)
      have z2 := app1 ts b (some ((fd ++ [("of" : Str), x]).map D.str)) (by omega)
      simp only [liI, liO, ex, exs, ev, evs, Wr.enc, see_str, see_tup, q2, q5, q6, q7, eqOO, List.getElem?_cons_zero, List.getElem?_cons_succ, see1, see2, if_true, zs2, z, z2]
  | to a b =>
    simp only [Wr.size, Wr.dp] at hl h2
    obtain ⟨q1, q2, q3, q4, q5, q6, q7⟩ := sq3_T (.str "to") a.enc b.enc
    refine ⟨a :: b :: ts, fd ++ [("to" : Str)], fun u hu => ?_, by simp only [wtI, Wr.size]; omega, by simp only [wtI, List.length_append, List.length_cons, List.length_nil]; omega, by simp only [procI, its, List.append_assoc, List.cons_append, List.nil_append], fin ?_⟩
    · rcases List.mem_cons.mp hu with rfl | hu
      · exact ⟨fun y hy => h1 y (List.mem_append_left _ hy), by omega⟩
      · rcases List.mem_cons.mp hu with rfl | hu
        · exact ⟨fun y hy => h1 y (List.mem_append_right _ hy), by omega⟩
        · exact hts u hu
    · have z := app2 (some (stkI ts)) fd ("to" : Str) (by omega)
      have z2 := ext1 ts b a (some ((fd ++ [("to" : Str)]).map D.str)) (by omega)
      simp only [liI, liT, ex, exs, ev, evs, Wr.enc, see_str, see_tup, q2, q5, q6, q7, eqTO, List.getElem?_cons_zero, List.getElem?_cons_succ, see1, see2, if_true, zs2, z, z2]
theorem li_loop {F : CF} {x0 : D} : ∀ (k : Nat) (ts : List Wr) (fd : List Str) (y3 : Option D), wtI ts < k → (∀ u ∈ ts, TI u) → fd.length + 2 * wtI ts ≤ 40000 →
    ∃ y3', whRun (fun ρ S => ev F liC ρ S) (fun ρ S => exs F w liB ρ S) k [some x0, some (.ref S.length), some (.ref (S.length + 1)), y3] (S ++ [some (stkI ts), some (fd.map D.str)]) =
      some (.nx [some x0, some (.ref S.length), some (.ref (S.length + 1)), y3'], S ++ [some [], some ((procI ts fd).map D.str)])
  | 0, ts, fd, y3, hk, hts, hl => absurd hk (Nat.not_lt_zero _)
  | k + 1, [], fd, y3, hk, hts, hl => by
    have z := stkI_ok (ts := []) (by simp)
    have z3 : see (S ++ [some (stkI []), some (fd.map D.str)]) (.ref S.length) = some (.lst (stkI [])) := by simp only [see, idx_p, isObj_stkI, Bool.false_eq_true, if_false]
    refine ⟨y3, ?_⟩
    simp only [whRun, liC, ev, evs, List.getElem?_cons_zero, List.getElem?_cons_succ, zs0, if_true, z3, see_lst, z, List.isEmpty_nil, Bool.not_true]
    rfl
  | k + 1, t :: ts, fd, y3, hk, hts, hl => by
    obtain ⟨us, fd', h1, h2, h3, h4, h5⟩ := li_turn (F := F) (w := w) (x0 := x0) (S := S) (y3 := y3) (hts t List.mem_cons_self) (fun u hu => hts u (List.mem_cons_of_mem _ hu)) hl
    obtain ⟨y3', e⟩ := li_loop (F := F) (x0 := x0) k us fd' (some t.enc) (by omega) h1 h3
    have z := stkI_ok (ts := t :: ts) hts
    have z3 : see (S ++ [some (stkI (t :: ts)), some (fd.map D.str)]) (.ref S.length) = some (.lst (stkI (t :: ts))) := by simp only [see, idx_p, isObj_stkI, Bool.false_eq_true, if_false]
    refine ⟨y3', ?_⟩
    rw [h4] at e
    rw [whRun]
    have ec : ev F liC [some x0, some (.ref S.length), some (.ref (S.length + 1)), y3] (S ++ [some (stkI (t :: ts)), some (fd.map D.str)]) = some (.bl true, S ++ [some (stkI (t :: ts)), some (fd.map D.str)]) := by
      simp only [liC, ev, evs, List.getElem?_cons_zero, List.getElem?_cons_succ, zs0, if_true, z3, see_lst, z, List.isEmpty_cons, Bool.not_false]
    simp only [ec, h5]
    exact e
theorem lawItems_ok {W : Wr} (hW : Good W) (hd : W.dp ≤ 185) (hs : W.size ≤ 5000) (hw : 10000 ≤ w) (hc : clo S) : run T w (n + 1) 41 [W.enc] S = some (.lst ((its W).map D.str), S) := by
  obtain ⟨y3, e⟩ := li_loop (F := run T w n) (w := w) (x0 := W.enc) (S := S) w [W] [] none (by simp only [wtI]; omega) (fun u hu => by rw [List.mem_singleton.mp hu]; exact ⟨hW, hd⟩) (by simp only [wtI, List.length_nil]; omega)
  have e1 : procI [W] [] = its W := rfl
  rw [e1] at e
  have e2 : stkI [W] = [W.enc] := rfl
  rw [e2] at e
  have zs12 : small [1, 2].length = true := rfl
  have zt : ∀ x y : D, [x, y].length = [1, 2].length := fun _ _ => rfl
  have zl : (S ++ [some [W.enc]]).length = S.length + 1 := by simp
  have za : S ++ [some [W.enc]] ++ [some []] = S ++ [some [W.enc], some []] := by simp
  refine run_rtc (X := [some [], none]) t41 rfl hc (pures_strs _) ?_
  have e' : whRun (fun ρ S => ev (run T w n) liC ρ S) (fun ρ S => exs (run T w n) w liB ρ S) w [some W.enc, some (.ref S.length), some (.ref (S.length + 1)), none] (S ++ [some [W.enc], some []]) = _ := e
  simp only [List.map_cons, List.map_nil, Nat.reduceSub, List.replicate_succ, List.replicate_zero, List.cons_append, List.nil_append, exs, ex, ev, evs, List.getElem?_cons_zero, zs1, zs0, mkList, if_true, zl, za, zt, zs12, eq_self, List.zip_cons_cons, List.zip_nil_right, List.foldl_cons, List.foldl_nil, List.set_cons_succ, List.set_cons_zero]
  simp only [e', isObj_strs, Bool.false_eq_true, if_false, List.getElem?_cons_zero, List.getElem?_cons_succ, idx_q, set_q]
theorem signsOf_ok {W : Wr} {d : D} (eW : Enc d W) (hW : Good W) (hn : W.dp + 4 ≤ n) : run T w (n + 1) 24 [d] S = some (.int W.size, S) := by
  obtain ⟨n, rfl⟩ : ∃ m, n = m + 1 := ⟨n - 1, by omega⟩
  have z1 := need_ok (T := T) (w := w) (n := n) t2 t12 t4 t13 (S := S) (p := .str "writing") eW hW (by omega)
  have z2 := signsIn_ok (w := w) (S := S) W (n + 1) (by omega)
  refine run_rts t24 rfl rfl ?_
  simp only [b_signs_of, List.map_cons, List.map_nil, Nat.sub_self, List.replicate_zero, List.append_nil, exs, ex, ev, evs, List.getElem?_cons_zero, z1, z2]
theorem layersOf_ok {W : Wr} {d : D} (eW : Enc d W) (hW : Good W) (hn : W.dp + 4 ≤ n) : run T w (n + 1) 25 [d] S = some (.int (W.dp + 1 : Nat), S) := by
  obtain ⟨n, rfl⟩ : ∃ m, n = m + 1 := ⟨n - 1, by omega⟩
  have z1 := need_ok (T := T) (w := w) (n := n) t2 t12 t4 t13 (S := S) (p := .str "writing") eW hW (by omega)
  have z2 := layersIn_ok (w := w) (S := S) W (n + 1) (by omega)
  refine run_rts t25 rfl rfl ?_
  simp only [b_layers_of, List.map_cons, List.map_nil, Nat.sub_self, List.replicate_zero, List.append_nil, exs, ex, ev, evs, List.getElem?_cons_zero, z1, z2]
end Lk03

set_option Elab.async false
set_option linter.all false
set_option maxRecDepth 100000
set_option maxHeartbeats 4000000
namespace Lk03
open PySem Iv
variable {w n : Nat} {S : Sto}
def txt (l : List Str) : Str := Txt.join (" " : Str) l
theorem item_ok {W : Wr} (h : Good W) : ∀ x ∈ its W, 1 ≤ x.length ∧ x.length ≤ 12 ∧ 32 ∉ x.cps.toList := fun x hx => by
  rcases its_in W x hx with q | rfl | rfl
  · have h1 := nm_not (h x q)
    refine ⟨h1.2.2.1, h1.2.2.2, fun z => ?_⟩
    have h2 := h x q
    unfold nmOk at h2
    simp only [Bool.and_eq_true] at h2
    have h3 := of_decide_eq_true (List.all_eq_true.mp h2.2 32 z)
    revert h3
    decide
  · exact ⟨by decide, by decide, by decide⟩
  · exact ⟨by decide, by decide, by decide⟩
theorem sum_le : ∀ l : List Str, (∀ x ∈ l, x.length ≤ 12) → (l.map (·.length)).sum ≤ 12 * l.length
  | [], _ => Nat.le_refl _
  | x :: l, h => by
    have h1 := sum_le l fun y hy => h y (List.mem_cons_of_mem _ hy)
    have h2 := h x List.mem_cons_self
    simp only [List.map_cons, List.sum_cons, List.length_cons]
    omega
theorem join_len : ∀ l : List (List Nat), (TL.joinL [32] l).length ≤ (l.map (·.length)).sum + l.length
  | [] => Nat.le_refl _
  | [p] => by simp [TL.joinL]
  | p :: q :: r => by
    have ih := join_len (q :: r)
    simp only [TL.joinL, List.length_append, List.length_cons, List.length_nil, List.map_cons, List.sum_cons] at ih ⊢
    omega
theorem txt_len (l : List Str) (h : ∀ x ∈ l, x.length ≤ 12) : (txt l).length ≤ 13 * l.length := by
  have e : (txt l).length = (TL.joinL [32] (l.map TL.tl)).length := by
    show (txt l).cps.size = _
    rw [← Array.length_toList]
    show (TL.tl (Txt.join (" " : Str) l)).length = _
    rw [TL.join_eq, TL.tl_join]
    rfl
  have h1 := join_len (l.map TL.tl)
  have h2 := sum_le l h
  have e2 : ((l.map TL.tl).map (·.length)) = l.map (·.length) := by
    rw [List.map_map]
    exact List.map_congr_left fun x _ => by show x.cps.toList.length = x.cps.size; rw [Array.length_toList]
  rw [e2, List.length_map] at h1
  omega
theorem split_txt {l : List Str} (hne : l ≠ []) (h : ∀ x ∈ l, 32 ∉ x.cps.toList) : Txt.split (txt l) (" " : Str) = l :=
  TL.split_join (s := 32) (S := []) rfl (by decide +kernel) hne h
theorem strs_map : ∀ l : List Str, strs? (l.map D.str) = some l
  | [] => rfl
  | x :: l => by simp only [List.map_cons, strs?, strs_map l, Option.map_some]
theorem join_me {l : List Str} (h : ∀ x ∈ l, x.length ≤ 12) (hl : l.length ≤ 5000) : meD .join (.str " ") [.lst (l.map D.str)] S = some (.str (txt l), S) := by
  have h1 := sum_le l h
  have z : small ((l.map (·.length)).sum + l.length * (" " : Str).length) = true := decide_eq_true (by
    have : (" " : Str).length = 1 := rfl
    rw [this]; omega)
  simp only [meD, strs_map, z, if_true]
  rfl
theorem writingText_ok {W : Wr} {d : D} (eW : Enc d W) (hW : Good W) (hs : W.size ≤ 2000) (hn : W.dp + 4 ≤ n) : run T w (n + 1) 27 [d] S = some (.str (txt (its W)), S) := by
  obtain ⟨n, rfl⟩ : ∃ m, n = m + 1 := ⟨n - 1, by omega⟩
  have z1 := need_ok (T := T) (w := w) (n := n) t2 t12 t4 t13 (S := S) (p := .str "writing") eW hW (by omega)
  have z2 := itemsOf_ok (w := w) (S := S) W (n + 1) (by omega) (by omega)
  have hl := its_len W
  have z3 := join_me (S := S) (l := its W) (fun x hx => (item_ok hW x hx).2.1) (by omega)
  refine run_rts t27 rfl rfl ?_
  simp only [b_writing_text, List.map_cons, List.map_nil, Nat.sub_self, List.replicate_zero, List.append_nil, exs, ex, ev, evs, see_str, Option.isSome_some, if_true, List.getElem?_cons_zero, z1, z2, z3]
theorem evs_cons {F : CF} {e : E} {es : Es} {ρ : Iv.Env} {S S1 S2 : Sto} {x : D} {xs : List D} (h1 : ev F e ρ S = some (x, S1)) (h2 : evs F es ρ S1 = some (xs, S2)) : evs F (.cons e es) ρ S = some (x :: xs, S2) := by simp only [evs, h1, h2]
theorem ev_tup {F : CF} {es : Es} {ρ : Iv.Env} {S S1 : Sto} {xs : List D} (h : evs F es ρ S = some (xs, S1)) (hs : small xs.length = true) : ev F (.tup es) ρ S = some (.tup xs, S1) := by simp only [ev, h, hs, if_true]
theorem t5 : T[5]? = some ⟨2, 2, b_Scan_init⟩ := rfl
theorem t6 : T[6]? = some ⟨1, 1, b_Scan_is_over⟩ := rfl
theorem t7 : T[7]? = some ⟨1, 1, b_Scan_seen⟩ := rfl
theorem t10 : T[10]? = some ⟨1, 2, b_Scan_take⟩ := rfl
theorem t11 : T[11]? = some ⟨1, 1, b_Scan_finish⟩ := rfl
theorem t22 : T[22]? = some ⟨1, 3, b_take_writing⟩ := rfl
theorem t28 : T[28]? = some ⟨1, 3, b_read_writing⟩ := rfl
def scn (l : List Str) (k : Int) : List D := [.cl "Scan" ["items_left", "spot"], .lst (l.map D.str), .int k]
def sc (S : Sto) (l : List Str) (k : Int) : Sto := S ++ [some (scn l k)]
theorem sc_len (l : List Str) (k : Int) : (sc S l k).length = S.length + 1 := by simp [sc]
theorem sc_at (l : List Str) (k : Int) : (sc S l k)[S.length]? = some (some (scn l k)) := by simp [sc]
theorem sc_set (l : List Str) (k j : Int) : (sc S l k).set S.length (some (scn l j)) = sc S l j := by
  unfold sc
  rw [List.set_append_right _ _ (Nat.le_refl _)]; simp
theorem fld1 (l : List Str) (k : Int) : fldD "Scan" "items_left" (scn l k) = some (.lst (l.map D.str)) := by
  simp [fldD, scn, List.lookup]
theorem fld2 (l : List Str) (k : Int) : fldD "Scan" "spot" (scn l k) = some (.int k) := by
  have : (("spot" : Str) == ("items_left" : Str)) = false := by decide
  simp [fldD, scn, List.lookup, this]
theorem put2 (l : List Str) (k j : Int) : putD "Scan" "spot" (.int j) (scn l k) = some (scn l j) := by
  have h : (("items_left" : Str) = ("spot" : Str)) = False := by simp; decide
  simp [putD, scn, putP, h]
theorem init_ok (x : Str) (hx : small x.length = true) : run T w (n + 1) 5 [.ref S.length, .str x] (S ++ [some [.cl "Scan" []]]) = some (.non, sc S (Txt.split x (" " : Str)) 0) := by
  refine run_nxs (ρ := [some (.ref S.length), some (.str x)]) t5 rfl (by rw [sc_len]; simp) ?_
  have e1 : meD .split (.str x) [.str " "] (S ++ [some [.cl "Scan" []]]) = some (.lst ((Txt.split x (" " : Str)).map D.str), S ++ [some [.cl "Scan" []]]) := by
    have z : (small x.length && !((" " : Str).length == 0)) = true := by rw [hx]; rfl
    simp only [meD, z, if_true]
  have i1 : (S ++ [some [D.cl "Scan" []]])[S.length]? = some (some [.cl "Scan" []]) := by simp
  have p1 : putD "Scan" "items_left" (.lst ((Txt.split x (" " : Str)).map D.str)) [.cl "Scan" []] = some [.cl "Scan" ["items_left"], .lst ((Txt.split x (" " : Str)).map D.str)] := rfl
  have i2 : (S ++ [some [D.cl "Scan" []]]).set S.length (some [.cl "Scan" ["items_left"], .lst ((Txt.split x (" " : Str)).map D.str)]) = S ++ [some [.cl "Scan" ["items_left"], .lst ((Txt.split x (" " : Str)).map D.str)]] := by
    rw [List.set_append_right _ _ (Nat.le_refl _)]; simp
  have i3 : (S ++ [some [D.cl "Scan" ["items_left"], .lst ((Txt.split x (" " : Str)).map D.str)]])[S.length]? = some (some [.cl "Scan" ["items_left"], .lst ((Txt.split x (" " : Str)).map D.str)]) := by simp
  have p2 : putD "Scan" "spot" (.int 0) [.cl "Scan" ["items_left"], .lst ((Txt.split x (" " : Str)).map D.str)] = some (scn (Txt.split x (" " : Str)) 0) := by
    have h : (("items_left" : Str) = ("spot" : Str)) = False := by simp; decide
    simp [putD, scn, putP, h]
  have i4 : (S ++ [some [D.cl "Scan" ["items_left"], .lst ((Txt.split x (" " : Str)).map D.str)]]).set S.length (some (scn (Txt.split x (" " : Str)) 0)) = sc S (Txt.split x (" " : Str)) 0 := by
    rw [List.set_append_right _ _ (Nat.le_refl _)]; simp [sc]
  simp only [b_Scan_init, List.map_cons, List.map_nil, Nat.sub_self, List.replicate_zero, List.append_nil, exs, ex, ev, evs, see_str, List.getElem?_cons_zero, List.getElem?_cons_succ, any_s, Bool.not_true, Option.isSome_some, if_true, e1, i1, p1, i2, i3, p2, i4]
theorem over_ok (l : List Str) (k : Int) : run T w (n + 1) 6 [.ref S.length] (sc S l k) = some (.bl (decide (k = l.length)), sc S l k) := by
  refine run_rts t6 rfl rfl ?_
  have e : cmpD .Eq (.int k) (.int l.length) = some (decide (k = l.length)) := rfl
  simp only [b_Scan_is_over, List.map_cons, List.map_nil, Nat.sub_self, List.replicate_zero, List.append_nil, exs, ex, ev, evs, seeAll, see_lst, see_int, List.getElem?_cons_zero, sc_at, fld1, fld2, len_lst, List.length_map, e]
theorem mcall_ev {F : CF} {m : Str} {f : Nat} {o : E} {ρ : Iv.Env} {l : List Str} {k : Int} (h : (["items_left", "spot"] : List Str).contains m = false) (ho : ev F o ρ (sc S l k) = some (.ref S.length, sc S l k)) : ev F (.mcall "Scan" m f o .nil) ρ (sc S l k) = F f [.ref S.length] (sc S l k) := by
  have c : (decide (("Scan" : Str) = "Scan") && !(["items_left", "spot"] : List Str).contains m) = true := by rw [h]; rfl
  rw [ev, ho]
  simp only [sc_at]
  unfold scn
  dsimp only
  rw [if_pos c]
  simp only [evs]
theorem seen_ok {l : List Str} {k : Nat} {x : Str} (h : l[k]? = some x) : run T w (n + 2) 7 [.ref S.length] (sc S l k) = some (.str x, sc S l k) := by
  refine run_rts t7 rfl rfl ?_
  have lt := (List.getElem?_eq_some_iff.mp h).1
  have e := over_ok (w := w) (n := n) (S := S) l k
  rw [decide_eq_false (by omega)] at e
  have e2 : ixD (.lst (l.map D.str)) (.int (k : Int)) = some (.str x) := by
    rw [ix_lst, atI_nat (by simpa using lt), List.getElem?_map, h]; rfl
  have c1 : (["items_left", "spot"] : List Str).contains "is_over" = false := by decide
  have m := mcall_ev (F := run T w (n + 1)) (S := S) (m := "is_over") (f := 6) (o := .v 0) (ρ := [some (.ref S.length)]) (l := l) (k := k) c1 rfl
  rw [e] at m
  show exs _ _ b_Scan_seen [some (.ref S.length)] _ = _
  rw [b_Scan_seen, exs, ex, ev, m]
  simp only [ev, List.getElem?_cons_zero, sc_at, fld1, fld2, see_lst, e2]
theorem take_ok {l : List Str} {k : Nat} {x : Str} (h : l[k]? = some x) : run T w (n + 3) 10 [.ref S.length] (sc S l k) = some (.str x, sc S l (k + 1 : Nat)) := by
  refine run_rts t10 rfl (by rw [sc_len, sc_len]) ?_
  have e := seen_ok (w := w) (n := n) (S := S) h
  have c1 : (["items_left", "spot"] : List Str).contains "seen" = false := by decide
  have e2 : cmpD .Is (.str x) .non = some false := rfl
  have s1 : ev (run T w (n + 2)) (.mcall "Scan" "seen" 7 (.v 0) .nil) [some (.ref S.length), none] (sc S l k) = some (.str x, sc S l k) := by
    rw [mcall_ev c1 rfl]
    exact e
  have s2 : ex (run T w (n + 2)) w (.setf "Scan" (.v 0) "spot" (.op .Add (.fld "Scan" (.v 0) "spot") (.c (.int 1)))) [some (.ref S.length), some (.str x)] (sc S l k) = some (.nx [some (.ref S.length), some (.str x)], sc S l (k + 1 : Nat)) := by
    have p := put2 l k (k + 1)
    have q := sc_set (S := S) l k (k + 1)
    simp only [ex, ev, List.getElem?_cons_zero, sc_at, fld2, see_int, op_add, p, q]
    rfl
  have seeN : ∀ S, see S .non = some .non := fun _ => rfl
  simp only [List.map_cons, List.map_nil, Nat.reduceSub, List.replicate_succ, List.replicate_zero, List.cons_append, List.nil_append]
  rw [b_Scan_take, exs, ex, s1]
  simp only [setT, List.set_cons_succ, List.set_cons_zero]
  have s3 : ex (run T w (n + 2)) w (.ifs (.cmp .Is (.v 1) (.c .non)) (.cons (.ex (.mcall "Scan" "refuse" 8 (.v 0) .nil)) .nil) .nil) [some (.ref S.length), some (.str x)] (sc S l k) = some (.nx [some (.ref S.length), some (.str x)], sc S l k) := by
    simp only [ex, ev, exs, List.getElem?_cons_succ, List.getElem?_cons_zero, see_str, seeN, e2]
  rw [exs, s3]
  simp only []
  rw [exs, s2]
  simp only [exs, ex, ev, List.getElem?_cons_succ, List.getElem?_cons_zero]
theorem fin_ok (l : List Str) : run T w (n + 2) 11 [.ref S.length] (sc S l l.length) = some (.non, sc S l l.length) := by
  have e := over_ok (w := w) (n := n) (S := S) l l.length
  rw [decide_eq_true rfl] at e
  have c1 : (["items_left", "spot"] : List Str).contains "is_over" = false := by decide
  have m := mcall_ev (F := run T w (n + 1)) (S := S) (m := "is_over") (f := 6) (o := .v 0) (ρ := [some (.ref S.length)]) (l := l) (k := l.length) c1 rfl
  rw [e] at m
  refine run_nxs (ρ := [some (.ref S.length)]) t11 rfl rfl ?_
  show exs _ _ b_Scan_finish [some (.ref S.length)] _ = _
  rw [b_Scan_finish, exs, ex, ev, m]
  simp only [Bool.not_true, exs]
theorem tk_ev {m : Nat} {l : List Str} {k : Nat} {x : Str} {ρ : Iv.Env} (h0 : ρ[0]? = some (some (.ref S.length))) (h : l[k]? = some x) : ev (run T w (m + 3)) (.mcall "Scan" "take" 10 (.v 0) .nil) ρ (sc S l k) = some (.str x, sc S l (k + 1 : Nat)) := by
  have c1 : (["items_left", "spot"] : List Str).contains "take" = false := by decide
  rw [mcall_ev c1 (by simp only [ev, h0])]
  exact take_ok h
theorem twn {x : Str} (S : Sto) (h : nmOk x = true) : run T w (n + 1) 2 [.str x] S = some (.bl true, S) := isName_ok t2 h S
theorem takeW_ok {l : List Str} : ∀ (W : Wr) (n k : Nat) (post : List Str), Good W → W.dp + 5 ≤ n → l.drop k = its W ++ post → run T w n 22 [.ref S.length] (sc S l k) = some (W.enc, sc S l (k + (its W).length : Nat))
  | .nm x, n, k, post, hW, hn, hl => by
    obtain ⟨n, rfl⟩ : ∃ m, n = m + 4 := ⟨n - 4, by omega⟩
    have h0 : l[k]? = some x := by
      have := congrArg (fun l => l[0]?) hl
      simpa [its] using this
    have hx := hW x List.mem_cons_self
    obtain ⟨n1, n2, _, _⟩ := nm_not hx
    have e1 : cmpD .Eq (.str x) (.str "of") = some false := congrArg some (decide_eq_false n1)
    have e2 : cmpD .Eq (.str x) (.str "to") = some false := congrArg some (decide_eq_false n2)
    have z := twn (w := w) (n := n + 2) (sc S l (k + 1 : Nat)) hx
    have tk := tk_ev (w := w) (m := n) (S := S) (ρ := [some (.ref S.length), none, none]) rfl h0
    refine run_rts t22 rfl (by rw [sc_len, sc_len]) ?_
    simp only [List.map_cons, List.map_nil, Nat.reduceSub, List.replicate_succ, List.replicate_zero, List.cons_append, List.nil_append]
    rw [b_take_writing, exs, ex, tk]
    simp only [setT, List.set_cons_succ, List.set_cons_zero, exs, ex, ev, evs, List.getElem?_cons_succ, List.getElem?_cons_zero, see_str, e1, e2, z, Bool.not_true]
    rfl
  | .of x b, n, k, post, hW, hn, hl => by
    simp only [Wr.dp] at hn
    obtain ⟨n, rfl⟩ : ∃ m, n = m + 4 := ⟨n - 4, by omega⟩
    have h0 : l[k]? = some "of" := by
      have := congrArg (fun l => l[0]?) hl
      simpa [its] using this
    have h1 : l[k + 1]? = some x := by
      have := congrArg (fun l => l[1]?) hl
      simpa [its] using this
    have h2 : l.drop (k + 2) = its b ++ post := by
      have := congrArg (List.drop 2) hl
      rw [List.drop_drop] at this
      exact this
    have ih := takeW_ok (l := l) b (n + 3) (k + 2) post (fun y hy => hW y (List.mem_cons_of_mem _ hy)) (by omega) h2
    have hx := hW x List.mem_cons_self
    have z := twn (w := w) (n := n + 2) (sc S l (k + 1 + 1 : Nat)) hx
    have tk := tk_ev (w := w) (m := n) (S := S) (ρ := [some (.ref S.length), none, none]) rfl h0
    have tk2 := tk_ev (w := w) (m := n) (S := S) (ρ := [some (.ref S.length), some (.str "of"), none]) rfl h1
    have ihv : ev (run T w (n + 3)) (.call 22 (.cons (.v 0) .nil)) [some (.ref S.length), some (.str "of"), some (.str x)] (sc S l (k + 1 + 1 : Nat)) = some (b.enc, sc S l (k + 2 + (its b).length : Nat)) := by
      simp only [ev, evs, List.getElem?_cons_zero]
      exact ih
    refine run_rts t22 rfl (by rw [sc_len, sc_len]) ?_
    simp only [List.map_cons, List.map_nil, Nat.reduceSub, List.replicate_succ, List.replicate_zero, List.cons_append, List.nil_append]
    rw [b_take_writing, exs, ex, tk]
    simp only [setT, List.set_cons_succ, List.set_cons_zero]
    have body : exs (run T w (n + 3)) w (.cons (.asg (.n 2) (.mcall "Scan" "take" 10 (.v 0) .nil)) (.cons (.ifs (.not (.call 2 (.cons (.v 2) .nil))) (.cons (.ex (.mcall "Scan" "refuse_last" 9 (.v 0) .nil)) .nil) .nil) (.cons (.ret (.tup (.cons (.g "OF" (.str "of")) (.cons (.v 2) (.cons (.call 22 (.cons (.v 0) .nil)) .nil))))) .nil))) [some (.ref S.length), some (.str "of"), none] (sc S l (k + 1 : Nat)) = some (.rt (Wr.of x b).enc, sc S l (k + (its (Wr.of x b)).length : Nat)) := by
      rw [exs, ex, tk2]
      simp only [setT, List.set_cons_succ, List.set_cons_zero]
      rw [exs]
      have s3 : ex (run T w (n + 3)) w (.ifs (.not (.call 2 (.cons (.v 2) .nil))) (.cons (.ex (.mcall "Scan" "refuse_last" 9 (.v 0) .nil)) .nil) .nil) [some (.ref S.length), some (.str "of"), some (.str x)] (sc S l (k + 1 + 1 : Nat)) = some (.nx [some (.ref S.length), some (.str "of"), some (.str x)], sc S l (k + 1 + 1 : Nat)) := by
        simp only [ex, exs, ev, evs, List.getElem?_cons_succ, List.getElem?_cons_zero, z, Bool.not_true]
      rw [s3]
      simp only [exs, ex]
      have s4 : ev (run T w (n + 3)) (.tup (.cons (.g "OF" (.str "of")) (.cons (.v 2) (.cons (.call 22 (.cons (.v 0) .nil)) .nil)))) [some (.ref S.length), some (.str "of"), some (.str x)] (sc S l (k + 1 + 1 : Nat)) = some ((Wr.of x b).enc, sc S l (k + 2 + (its b).length : Nat)) := by
        refine ev_tup (xs := [.str "of", .str x, b.enc]) (evs_cons (S1 := sc S l (k + 1 + 1 : Nat)) rfl (evs_cons (S1 := sc S l (k + 1 + 1 : Nat)) rfl (evs_cons ihv rfl))) rfl
      rw [s4]
      simp only []
      have : k + 2 + (its b).length = k + (its (Wr.of x b)).length := by simp only [its, List.length_cons]; omega
      rw [this]
    rw [exs, ex]
    simp only [ev, List.getElem?_cons_succ, List.getElem?_cons_zero, see_str, eqOO]
    rw [body]
  | .to a b, n, k, post, hW, hn, hl => by
    simp only [Wr.dp] at hn
    obtain ⟨n, rfl⟩ : ∃ m, n = m + 4 := ⟨n - 4, by omega⟩
    have h0 : l[k]? = some "to" := by
      have := congrArg (fun l => l[0]?) hl
      simpa [its] using this
    have h1 : l.drop (k + 1) = its a ++ (its b ++ post) := by
      have := congrArg (List.drop 1) hl
      rw [List.drop_drop] at this
      simpa [its] using this
    have h2 : l.drop (k + 1 + (its a).length) = its b ++ post := by
      have := congrArg (List.drop (its a).length) h1
      rw [List.drop_drop] at this
      rw [this, List.drop_left]
    have ih1 := takeW_ok (l := l) a (n + 3) (k + 1) (its b ++ post) (fun y hy => hW y (List.mem_append_left _ hy)) (by omega) h1
    have ih2 := takeW_ok (l := l) b (n + 3) (k + 1 + (its a).length) post (fun y hy => hW y (List.mem_append_right _ hy)) (by omega) h2
    have tk := tk_ev (w := w) (m := n) (S := S) (ρ := [some (.ref S.length), none, none]) rfl h0
    have ih1v : ev (run T w (n + 3)) (.call 22 (.cons (.v 0) .nil)) [some (.ref S.length), some (.str "to"), none] (sc S l (k + 1 : Nat)) = some (a.enc, sc S l (k + 1 + (its a).length : Nat)) := by
      simp only [ev, evs, List.getElem?_cons_zero]
      exact ih1
    have ih2v : ev (run T w (n + 3)) (.call 22 (.cons (.v 0) .nil)) [some (.ref S.length), some (.str "to"), none] (sc S l (k + 1 + (its a).length : Nat)) = some (b.enc, sc S l (k + 1 + (its a).length + (its b).length : Nat)) := by
      simp only [ev, evs, List.getElem?_cons_zero]
      exact ih2
    refine run_rts t22 rfl (by rw [sc_len, sc_len]) ?_
    simp only [List.map_cons, List.map_nil, Nat.reduceSub, List.replicate_succ, List.replicate_zero, List.cons_append, List.nil_append]
    rw [b_take_writing, exs, ex, tk]
    simp only [setT, List.set_cons_succ, List.set_cons_zero]
    have s4 : ev (run T w (n + 3)) (.tup (.cons (.g "TO" (.str "to")) (.cons (.call 22 (.cons (.v 0) .nil)) (.cons (.call 22 (.cons (.v 0) .nil)) .nil)))) [some (.ref S.length), some (.str "to"), none] (sc S l (k + 1 : Nat)) = some ((Wr.to a b).enc, sc S l (k + (its (Wr.to a b)).length : Nat)) := by
      have : k + 1 + (its a).length + (its b).length = k + (its (Wr.to a b)).length := by simp only [its, List.length_cons, List.length_append]; omega
      rw [← this]
      exact ev_tup (xs := [.str "to", a.enc, b.enc]) (evs_cons (S1 := sc S l (k + 1 : Nat)) rfl (evs_cons ih1v (evs_cons ih2v rfl))) rfl
    rw [exs, ex]
    simp only [ev, List.getElem?_cons_succ, List.getElem?_cons_zero, see_str, eqTO, exs, ex, eqTT, evs]
    have s5 : exs (run T w (n + 3)) w (.cons (.ret (.tup (.cons (.g "TO" (.str "to")) (.cons (.call 22 (.cons (.v 0) .nil)) (.cons (.call 22 (.cons (.v 0) .nil)) .nil))))) .nil) [some (.ref S.length), some (.str "to"), none] (sc S l (k + 1 : Nat)) = some (.rt (Wr.to a b).enc, sc S l (k + (its (Wr.to a b)).length : Nat)) := by
      rw [exs, ex, s4]
    simp only [exs, ex, ev, evs, List.getElem?_cons_zero] at s5
    rw [s5]
theorem readWriting_ok {W : Wr} (hW : Good W) (hs : W.size ≤ 2000) (hn : W.dp + 5 ≤ n) (hc : clo S) : run T w (n + 1) 28 [.str (txt (its W))] S = some (W.enc, S) := by
  obtain ⟨n, rfl⟩ : ∃ m, n = m + 2 := ⟨n - 2, by omega⟩
  have hi := item_ok hW
  have hl := its_len W
  have hsp : Txt.split (txt (its W)) (" " : Str) = its W := split_txt (by intro e; rw [e] at hl; simp at hl) fun x hx => (hi x hx).2.2
  have hsm : small (txt (its W)).length = true := decide_eq_true (by have := txt_len (its W) fun x hx => (hi x hx).2.1; omega)
  have e1 := init_ok (w := w) (n := n) (S := S) (txt (its W)) hsm
  rw [hsp] at e1
  have e1' : run T w (n + 2) 55 [.ref S.length, .str (txt (its W))] (S ++ [some [.cl "Scan" []]]) = some (.non, sc S (its W) (0 : Nat)) := by
    have h55 : T[55]? = none := rfl
    have h : run T w (n + 2) 55 [.ref S.length, .str (txt (its W))] (S ++ [some [.cl "Scan" []]]) = run T w (n + 1) (55 - T.length) [.ref S.length, .str (txt (its W))] (S ++ [some [.cl "Scan" []]]) := by simp only [Iv.run, h55]
    rw [h]
    exact e1
  have e2 := takeW_ok (w := w) (S := S) (l := its W) W (n + 2) 0 [] hW (by omega) (by simp)
  rw [Nat.zero_add] at e2
  have e3 := fin_ok (w := w) (n := n) (S := S) (its W)
  have c1 : (["items_left", "spot"] : List Str).contains "finish" = false := by decide
  refine run_rtc (X := [some (scn (its W) (its W).length)]) t28 rfl hc W.pure_enc ?_
  have s1 : ev (run T w (n + 2)) (.mko "Scan" 55 (.cons (.v 0) .nil)) [some (.str (txt (its W))), none, none] S = some (.ref S.length, sc S (its W) (0 : Nat)) := by
    simp only [ev, evs, List.getElem?_cons_zero, e1']
  have s2 : ev (run T w (n + 2)) (.call 22 (.cons (.v 1) .nil)) [some (.str (txt (its W))), some (.ref S.length), none] (sc S (its W) (0 : Nat)) = some (W.enc, sc S (its W) ((its W).length : Nat)) := by
    simp only [ev, evs, List.getElem?_cons_succ, List.getElem?_cons_zero]
    exact e2
  have s3 : ev (run T w (n + 2)) (.mcall "Scan" "finish" 11 (.v 1) .nil) [some (.str (txt (its W))), some (.ref S.length), some W.enc] (sc S (its W) ((its W).length : Nat)) = some (.non, sc S (its W) ((its W).length : Nat)) := by
    rw [mcall_ev c1 rfl]
    exact e3
  simp only [List.map_cons, List.map_nil, Nat.reduceSub, List.replicate_succ, List.replicate_zero, List.cons_append, List.nil_append]
  rw [b_read_writing, exs, ex, s1]
  simp only [setT, List.set_cons_succ, List.set_cons_zero]
  rw [exs, ex, s2]
  simp only [setT, List.set_cons_succ, List.set_cons_zero]
  rw [exs, ex, s3]
  simp only [exs, ex, ev, List.getElem?_cons_succ, List.getElem?_cons_zero]
  rfl
end Lk03

set_option Elab.async false
set_option linter.all false
set_option maxRecDepth 100000
set_option maxHeartbeats 4000000
namespace Lk03
open PySem Iv
variable {w n : Nat} {S : Sto}
def firstOk : List D → Bool
  | a :: _ => a.flat || a.ok || a.isDct
  | [] => true
mutual
/-- values that may be asked -/
def vl : D → Bool
  | .str x => decide (x.length ≤ 1000) && PyData.strOk x
  | .tup xs => firstOk xs && vls xs
  | .lst xs => firstOk xs && vls xs
  | .ref _ => false
  | .cl _ _ => false
  | _ => true
def vls : List D → Bool
  | [] => true
  | x :: xs => vl x && vls xs
end
theorem t42 : T[42]? = some ⟨1, 2, b__law_is_name⟩ := rfl
theorem t43 : T[43]? = some ⟨1, 1, b__law_is⟩ := rfl
def cOK (x : Str) (c : Nat) : Bool := decide (c ∈ (letters ++ digits).cps.toList)
theorem head_ix {x : Str} {c0 : Nat} {r : List Nat} (hc : x.cps.toList = c0 :: r) (hs : x.length ≤ 1000) : ixD (.str x) (.int 0) = some (.str ⟨#[c0]⟩) := by
  show (if _ then _ else _) = _
  rw [if_pos (show small x.length = true from decide_eq_true (by omega)), hc, show (0 : Int) = ((0 : Nat) : Int) from rfl, atI_nat (by simp)]
  rfl
theorem len_str {x : Str} (h : x.length ≤ 1000) : biD .len [.str x] = some (.int x.length) := by
  show (if _ then _ else _) = _; rw [if_pos (show small x.length = true from decide_eq_true (by omega))]
theorem in_words (x : Str) : cmpD .In (.str x) (.tup [.str "of", .str "to"]) = some (decide (x = "of") || decide (x = "to")) := by
  rw [in_tup rfl rfl]
  simp only [inFlat, List.any_cons, List.any_nil, eqv_str, Bool.or_false]
  have e1 : decide (("of" : Str) = x) = decide (x = ("of" : Str)) := decide_eq_decide.mpr ⟨fun h => h.symm, fun h => h.symm⟩
  have e2 : decide (("to" : Str) = x) = decide (x = ("to" : Str)) := decide_eq_decide.mpr ⟨fun h => h.symm, fun h => h.symm⟩
  rw [e1, e2]
theorem signs_cons {x : Str} (h : x ≠ "") : ∃ c r, x.cps.toList = c :: r := by
  cases q : x.cps.toList with
  | nil => exact absurd (Str.ext' (Array.toList_inj.mp (q.trans rfl))) h
  | cons c r => exact ⟨c, r, rfl⟩
theorem all_comp {F : CF} {x : Str} (hs : x.length ≤ 1000) : ev F nmComp [some (.str x), none] S = some (.lst ((x.cps.toList.map fun c => D.str ⟨#[c]⟩).map fun d => .bl (match d with | .str y => decide (y.cps.getD 0 0 ∈ (letters ++ digits).cps.toList) | _ => false)), S) := by
  have z7 : opD .Add (.str "abcdefghijklmnopqrstuvwxyz") (.str "0123456789") = some (.str (letters ++ digits)) := rfl
  have zl : x.cps.toList.length ≤ 1000 := by rw [Array.length_toList]; exact hs
  refine ev_comp (x := .str x) rfl rfl (fun d hd => ?_) (by simp only [List.length_map]; omega)
  obtain ⟨c, hc, rfl⟩ := List.mem_map.mp hd
  refine ⟨_, rfl, ?_⟩
  have z9 := in_sign c (letters ++ digits)
  simp only [wipeT, ev, see, List.set_cons_succ, List.set_cons_zero, List.getElem?_cons_zero, List.getElem?_cons_succ, z7, z9]
  rfl
theorem all_bls {x : Str} : biD .all [.lst ((x.cps.toList.map fun c => D.str ⟨#[c]⟩).map fun d => .bl (match d with | .str y => decide (y.cps.getD 0 0 ∈ (letters ++ digits).cps.toList) | _ => false))] = some (.bl (x.cps.toList.all fun c => decide (c ∈ (letters ++ digits).cps.toList))) := by
  show (bls? _).map _ = _
  rw [bls_map]
  simp only [Option.map_some, List.map_map, List.all_map]
  rfl
theorem name_any {x : Str} (hs : x.length ≤ 1000) : run T w (n + 1) 2 [.str x] S = some (.bl (nmOk x), S) := by
  refine run_rts t2 rfl rfl ?_
  have z1 := len_str hs
  have z4 := in_words x
  by_cases h1 : 1 ≤ x.length
  · have z2 : cmpD .LtE (.int 1) (.int x.length) = some true := congrArg some (decide_eq_true (by omega))
    by_cases h2 : x.length ≤ 12
    · have z3 : cmpD .LtE (.int x.length) (.int 12) = some true := congrArg some (decide_eq_true (by omega))
      obtain ⟨c0, r, hc⟩ := signs_cons (x := x) (by rintro rfl; exact absurd h1 (by decide))
      have z5 := head_ix hc hs
      have z6 := notin_sign c0 letters
      have z6' : cmpD .NotIn (.str ⟨#[c0]⟩) (.str "abcdefghijklmnopqrstuvwxyz") = some (!decide (c0 ∈ letters.cps.toList)) := z6
      have e : nmOk x = (!(decide (x = "of") || decide (x = "to")) && decide (c0 ∈ letters.cps.toList) && x.cps.toList.all fun c => decide (c ∈ (letters ++ digits).cps.toList)) := by
        unfold nmOk
        rw [decide_eq_true h1, decide_eq_true h2, hc]
        simp only [Bool.true_and, List.headD_cons, Bool.not_or]
        rfl
      rw [e]
      have za := all_comp (F := run T w n) (S := S) hs
      have zb := all_bls (x := x)
      cases q1 : (decide (x = "of") || decide (x = "to")) with
      | true =>
        rw [q1] at z4
        simp only [isNameB, List.map_cons, List.map_nil, Nat.reduceSub, List.replicate_succ, List.replicate_zero, List.cons_append, List.nil_append, exs, ex, ev, evs, see_str, see_tup, see_int, seeAll, List.getElem?_cons_zero, any_s, z1, z2, z3, z4, Bool.not_true, Bool.false_and]
      | false =>
        rw [q1] at z4
        cases q2 : decide (c0 ∈ letters.cps.toList) with
        | false =>
          rw [q2] at z6'
          simp only [isNameB, List.map_cons, List.map_nil, Nat.reduceSub, List.replicate_succ, List.replicate_zero, List.cons_append, List.nil_append, exs, ex, ev, evs, see_str, see_tup, see_int, seeAll, List.getElem?_cons_zero, any_s, z1, z2, z3, z4, z5, z6', Bool.not_true, Bool.not_false, Bool.true_and, Bool.false_and]
        | true =>
          rw [q2] at z6'
          simp only [isNameB, List.map_cons, List.map_nil, Nat.reduceSub, List.replicate_succ, List.replicate_zero, List.cons_append, List.nil_append, exs, ex, ev, evs, see_str, see_tup, see_int, see_lst, seeAll, List.getElem?_cons_zero, any_s, z1, z2, z3, z4, z5, z6', Bool.not_true, Bool.not_false, Bool.true_and]
          rw [show ev (run T w n) nmComp [some (.str x), none] S = _ from za]
          simp only [seeAll, see_lst, zb]
    · have z3 : cmpD .LtE (.int x.length) (.int 12) = some false := congrArg some (decide_eq_false (by omega))
      have e : nmOk x = false := by
        unfold nmOk
        rw [decide_eq_true h1, decide_eq_false h2]
        rfl
      rw [e]
      simp only [isNameB, List.map_cons, List.map_nil, Nat.reduceSub, List.replicate_succ, List.replicate_zero, List.cons_append, List.nil_append, exs, ex, ev, evs, see_str, see_tup, see_int, seeAll, List.getElem?_cons_zero, any_s, z1, z2, z3, Bool.not_true, Bool.not_false]
  · have z2 : cmpD .LtE (.int 1) (.int x.length) = some false := congrArg some (decide_eq_false (by omega))
    have e : nmOk x = false := by
      unfold nmOk
      rw [decide_eq_false h1]
      rfl
    rw [e]
    simp only [isNameB, List.map_cons, List.map_nil, Nat.reduceSub, List.replicate_succ, List.replicate_zero, List.cons_append, List.nil_append, exs, ex, ev, evs, see_str, see_tup, see_int, seeAll, List.getElem?_cons_zero, any_s, z1, z2, Bool.not_true, Bool.not_false]
/-- the law's own look at a name -/
theorem in_words3 (x : Str) : cmpD .In (.str x) (.tup [.str "", .str "of", .str "to"]) = some (decide (x = "") || (decide (x = "of") || decide (x = "to"))) := by
  rw [in_tup rfl rfl]
  simp only [inFlat, List.any_cons, List.any_nil, eqv_str, Bool.or_false]
  have e0 : decide (("" : Str) = x) = decide (x = ("" : Str)) := decide_eq_decide.mpr ⟨fun h => h.symm, fun h => h.symm⟩
  have e1 : decide (("of" : Str) = x) = decide (x = ("of" : Str)) := decide_eq_decide.mpr ⟨fun h => h.symm, fun h => h.symm⟩
  have e2 : decide (("to" : Str) = x) = decide (x = ("to" : Str)) := decide_eq_decide.mpr ⟨fun h => h.symm, fun h => h.symm⟩
  rw [e0, e1, e2]
def alnum : Str := "abcdefghijklmnopqrstuvwxyz0123456789"
theorem alnum_eq : alnum.cps.toList = (letters ++ digits).cps.toList := by decide
theorem one_inj {a b : Nat} : ((⟨#[a]⟩ : Str) = ⟨#[b]⟩) ↔ a = b := ⟨fun h => by
  have := congrArg (fun x : Str => x.cps.getD 0 0) h
  exact this, fun h => by rw [h]⟩
theorem in_list (c0 : Nat) : cmpD .In (.str ⟨#[c0]⟩) (.lst (letters.cps.toList.map fun c => D.str ⟨#[c]⟩)) = some (decide (c0 ∈ letters.cps.toList)) := by
  have e : (letters.cps.toList.map fun c => D.str ⟨#[c]⟩) = (letters.cps.toList.map fun c => (⟨#[c]⟩ : Str)).map D.str := by rw [List.map_map]; rfl
  rw [e, in_lst rfl (flats_strs _), inFlat_strs]
  congr 1
  rw [decide_eq_decide]
  constructor
  · intro h
    obtain ⟨c, hc, e⟩ := List.mem_map.mp h
    rw [one_inj] at e
    exact e ▸ hc
  · exact fun h => List.mem_map.mpr ⟨c0, h, rfl⟩
theorem strOk_sign {x : Str} (h : PyData.strOk x = true) : ∀ c ∈ x.cps.toList, PyData.strOk ⟨#[c]⟩ = true := fun c hc => by
  unfold PyData.strOk at h ⊢
  rw [← Array.all_toList, List.all_eq_true] at h
  have := h c hc
  simp only [List.all_toArray, List.all_cons, List.all_nil, Bool.and_true]
  exact this
theorem lay_signs : ∀ l : List Nat, (∀ c ∈ l, PyData.strOk ⟨#[c]⟩ = true) → D.ok (.lst (l.map fun c => D.str ⟨#[c]⟩)) = true := fun l h => by
  have h1 : ∀ l : List Nat, D.pures (l.map fun c => D.str ⟨#[c]⟩) = true := fun l => by induction l with | nil => rfl | cons a l ih => simp only [List.map_cons, D.pures, D.pure, ih, Bool.and_self]
  have h2 : ∀ l : List Nat, (∀ c ∈ l, PyData.strOk ⟨#[c]⟩ = true) → PyData.canLayAll0 (D.pys (l.map fun c => D.str ⟨#[c]⟩)) = true := fun l h => by
    induction l with
    | nil => rfl
    | cons a l ih => simp only [List.map_cons, D.pys, D.py, PyData.canLayAll0, PyData.canLay0, h a List.mem_cons_self, ih fun c hc => h c (List.mem_cons_of_mem _ hc), Bool.and_self]
  have h3 : ∀ l : List Nat, PyData.depthAll (D.pys (l.map fun c => D.str ⟨#[c]⟩)) = 0 := fun l => by induction l with | nil => rfl | cons a l ih => simp only [List.map_cons, D.pys, D.py, PyData.depthAll, PyData.depth, ih, Nat.max_self]
  simp only [D.ok, D.pure, D.py, PyData.canLay0, PyData.depth, h1, h2 l h, h3, Bool.and_self, Bool.true_and]
  rfl
def sgD : D → Bool
  | .str y => !decide (y.cps.getD 0 0 ∈ alnum.cps.toList)
  | _ => false
theorem lawName_any {x : Str} (hs : x.length ≤ 1000) (hk : PyData.strOk x = true) : run T w (n + 1) 42 [.str x] S = some (.bl (nmOk x), S) := by
  refine run_rts t42 rfl rfl ?_
  have z1 := len_str hs
  have z4 := in_words3 x
  show exs _ _ b__law_is_name [some (.str x), none] S = _
  by_cases h0 : x = ""
  · subst h0
    have e : nmOk "" = false := by decide
    rw [e]
    have z4' : cmpD .In (.str "") (.tup [.str "", .str "of", .str "to"]) = some true := z4
    simp only [b__law_is_name, exs, ex, ev, evs, see_str, see_tup, seeAll, List.getElem?_cons_zero, any_s, zs3, if_true, z4', Bool.not_true]
  · obtain ⟨c0, r, hc⟩ := signs_cons h0
    have h1 : 1 ≤ x.length := by show 1 ≤ x.cps.size; rw [← Array.length_toList, hc, List.length_cons]; omega
    rw [decide_eq_false h0, Bool.false_or] at z4
    cases q1 : (decide (x = "of") || decide (x = "to")) with
    | true =>
      rw [q1] at z4
      have e : nmOk x = false := by
        unfold nmOk
        rcases Bool.or_eq_true_iff.mp q1 with h | h
        · rw [h]; simp
        · rw [h]; simp
      rw [e]
      simp only [b__law_is_name, exs, ex, ev, evs, see_str, see_tup, seeAll, List.getElem?_cons_zero, any_s, zs3, if_true, z4, Bool.not_true]
    | false =>
      rw [q1] at z4
      by_cases h2 : x.length ≤ 12
      · have z3 : cmpD .Gt (.int x.length) (.int 12) = some false := congrArg some (decide_eq_false (by omega))
        have z5 := head_ix hc hs
        have e : nmOk x = (decide (c0 ∈ letters.cps.toList) && x.cps.toList.all fun c => decide (c ∈ (letters ++ digits).cps.toList)) := by
          unfold nmOk
          have := Bool.or_eq_false_iff.mp q1
          rw [decide_eq_true h1, decide_eq_true h2, hc, this.1, this.2]
          simp only [Bool.true_and, List.headD_cons, Bool.not_false]
          rfl
        rw [e]
        have z6 : cmpD .In (.str ⟨#[c0]⟩) (.lst (("abcdefghijklmnopqrstuvwxyz" : Str).cps.toList.map fun c => D.str ⟨#[c]⟩)) = _ := in_list c0
        have z7 : biD .list [.str "abcdefghijklmnopqrstuvwxyz"] = some (.lst (("abcdefghijklmnopqrstuvwxyz" : Str).cps.toList.map fun c => .str ⟨#[c]⟩)) := rfl
        have zl : x.cps.toList.length ≤ 12 := by rw [Array.length_toList]; exact h2
        have za := ev_filter (F := run T w n) (i := 1) (it := .v 0) (cond := (.cmp .NotIn (.v 1) (.c (.str "abcdefghijklmnopqrstuvwxyz0123456789")))) (ρ := [some (.str x), none]) (S := S) (S1 := S) (x := .str x) (xs := x.cps.toList.map fun c => D.str ⟨#[c]⟩) (p := sgD) rfl rfl (by simp) (fun d hd => by
          obtain ⟨c, hc, rfl⟩ := List.mem_map.mp hd
          have z9 := notin_sign c alnum
          have z9' : cmpD .NotIn (.str ⟨#[c]⟩) (.str "abcdefghijklmnopqrstuvwxyz0123456789") = _ := z9
          simp only [ev, see_str, List.set_cons_succ, List.set_cons_zero, List.getElem?_cons_zero, List.getElem?_cons_succ, z9']
          rfl) (by rw [List.length_map]; omega)
        have zb : ((x.cps.toList.map fun c => D.str ⟨#[c]⟩).filter sgD) = ((x.cps.toList.filter fun c => !decide (c ∈ alnum.cps.toList)).map fun c => D.str ⟨#[c]⟩) := by
          rw [List.filter_map]
          rfl
        rw [zb] at za
        have zc : cmpD .Eq (.lst ((x.cps.toList.filter fun c => !decide (c ∈ alnum.cps.toList)).map fun c => D.str ⟨#[c]⟩)) (.lst []) = some (x.cps.toList.all fun c => decide (c ∈ (letters ++ digits).cps.toList)) := by
          show (if _ then _ else _) = _
          rw [if_pos (by rw [lay_signs _ fun c hc => strOk_sign hk c (List.mem_filter.mp hc).1, ok_nil]; rfl), eqv_nil, alnum_eq]
          congr 1
          rw [Bool.eq_iff_iff, List.isEmpty_iff, List.map_eq_nil_iff, List.filter_eq_nil_iff, List.all_eq_true]
          constructor
          · intro h c hc
            have := h c hc
            simpa using this
          · intro h c hc
            have := h c hc
            simpa using this
        cases q2 : decide (c0 ∈ letters.cps.toList) with
        | false =>
          rw [q2] at z6
          simp only [b__law_is_name, exs, ex, ev, evs, see_str, see_tup, see_int, see_lst, seeAll, List.getElem?_cons_zero, any_s, zs3, zs0, if_true, z1, z3, z4, z5, z6, z7, Bool.not_true, Bool.false_and]
        | true =>
          rw [q2] at z6
          have zr : ev (run T w n) (.cmp .Eq (.compI false (.n 1) (.v 0) (.cmp .NotIn (.v 1) (.c (.str "abcdefghijklmnopqrstuvwxyz0123456789"))) (.v 1)) (.lst .nil)) [some (.str x), none] S = some (.bl (x.cps.toList.all fun c => decide (c ∈ (letters ++ digits).cps.toList)), S) := by
            rw [ev, za]
            simp only [ev, evs, zs0, if_true, see_lst, zc]
          have zq : ev (run T w n) (.cmp .In (.ix (.v 0) (.c (.int 0))) (.bi .list (.cons (.c (.str "abcdefghijklmnopqrstuvwxyz")) .nil))) [some (.str x), none] S = some (.bl true, S) := by
            simp only [ev, evs, see_str, see_lst, seeAll, List.getElem?_cons_zero, z5, z7, z6]
          have zp : ex (run T w n) w (.ifs (.or (.not (.isi (.v 0) [.str])) (.or (.cmp .In (.v 0) (.tup (.cons (.c (.str "")) (.cons (.c (.str "of")) (.cons (.c (.str "to")) .nil))))) (.cmp .Gt (.bi .len (.cons (.v 0) .nil)) (.c (.int 12))))) (.cons (.ret (.c (.bl false))) .nil) .nil) [some (.str x), none] S = some (.nx [some (.str x), none], S) := by
            simp only [exs, ex, ev, evs, see_str, see_tup, see_int, seeAll, List.getElem?_cons_zero, any_s, zs3, if_true, z1, z3, z4, Bool.not_true]
          rw [b__law_is_name, exs, zp]
          simp only []
          rw [exs, ex, ev, zq]
          simp only [zr, Bool.true_and]
      · have z3 : cmpD .Gt (.int x.length) (.int 12) = some true := congrArg some (decide_eq_true (by omega))
        have e : nmOk x = false := by
          unfold nmOk
          rw [decide_eq_false h2]
          simp
        rw [e]
        simp only [b__law_is_name, exs, ex, ev, evs, see_str, see_tup, see_int, seeAll, List.getElem?_cons_zero, any_s, zs3, if_true, z1, z3, z4, Bool.not_true]
end Lk03

set_option Elab.async false
set_option linter.all false
set_option maxRecDepth 100000
set_option maxHeartbeats 4000000
namespace Lk03
open PySem Iv
variable {w n : Nat} {S : Sto}
def isS : D → Bool
  | .str _ => true
  | _ => false
theorem eqv_no (x : Str) {d : D} (h : isS d = false) : D.eqv (.str x) d = false := by
  cases d <;> first | (cases h; done) | (simp [D.eqv, D.py, PyData.eqv])
theorem notin_ns {d : D} (h : isS d = false) (k : (d.flat || d.ok || d.isDct) = true) : cmpD .NotIn d (.tup [.str "of", .str "to"]) = some true := by
  have e : inFlat d [.str "of", .str "to"] = false := by
    simp only [inFlat, List.any_cons, List.any_nil, eqv_no _ h, Bool.or_false]
  have f1 : [D.str "of", .str "to"].all D.flat = true := rfl
  have f2 : (D.tup [.str "of", .str "to"]).ok = true := by decide +kernel
  have f3 : [D.str "of", .str "to"].all D.isStr = true := rfl
  simp only [cmpD, f1, f2, f3, Bool.and_true, e, Bool.not_false]
  cases h1 : d.flat with
  | true => rfl
  | false =>
    cases h2 : d.ok with
    | true => rfl
    | false =>
      rw [h1, h2] at k
      cases h3 : d.isDct with
      | true => rfl
      | false => rw [h3] at k; cases k
theorem notin_s (x : Str) : cmpD .NotIn (.str x) (.tup [.str "of", .str "to"]) = some (!(decide (x = "of") || decide (x = "to"))) := by
  have h := in_words x
  rw [in_tup rfl rfl] at h
  rw [notin_tup rfl rfl]
  exact congrArg (fun o => o.map not) h
theorem wr_name (d : D) (hv : vl d = true) : ∃ b, ∀ (n : Nat) (S : Sto), run T w (n + 1) 2 [d] S = some (.bl b, S) ∧ run T w (n + 1) 42 [d] S = some (.bl b, S) := by
  have other : ∀ e : D, isS e = false → (∀ S, see S e = some e) → [Ty.str].any (isTy e) = false → ∃ b, ∀ (n : Nat) (S : Sto), run T w (n + 1) 2 [e] S = some (.bl b, S) ∧ run T w (n + 1) 42 [e] S = some (.bl b, S) := fun e _ hs ht => by
    refine ⟨false, fun n S => ⟨run_rts t2 rfl rfl ?_, run_rts t42 rfl rfl ?_⟩⟩
    · show exs _ _ isNameB [some e, none] S = _
      simp only [isNameB, exs, ex, ev, List.getElem?_cons_zero, hs, ht, Bool.not_false]
    · show exs _ _ b__law_is_name [some e, none] S = _
      simp only [b__law_is_name, exs, ex, ev, List.getElem?_cons_zero, hs, ht, Bool.not_false]
  cases d with
  | str x =>
    have hv' : (decide (x.length ≤ 1000) && PyData.strOk x) = true := hv
    rw [Bool.and_eq_true, decide_eq_true_eq] at hv'
    exact ⟨nmOk x, fun n S => ⟨name_any hv'.1, lawName_any hv'.1 hv'.2⟩⟩
  | ref i => cases hv
  | cl x ns => cases hv
  | non => exact other _ rfl (fun _ => rfl) rfl
  | bl b => exact other _ rfl (fun _ => rfl) rfl
  | int i => exact other _ rfl (fun _ => rfl) rfl
  | tup xs => exact other _ rfl (fun _ => rfl) rfl
  | lst xs => exact other _ rfl (fun _ => rfl) rfl
  | dct => exact other _ rfl (fun _ => rfl) rfl
/-- no writing: both looks end at once -/
theorem both_no {d : D} (hv : vl d = true) (hs : ∀ S, see S d = some d) (h1 : [Ty.str].any (isTy d) = false) (h2 : [Ty.list, .tuple].any (isTy d) = false ∨ ([Ty.list, .tuple].any (isTy d) = true ∧ ∃ k : Int, biD .len [d] = some (.int k) ∧ k ≠ 3)) (n : Nat) (S : Sto) :
    run T w (n + 2) 12 [d] S = some (.bl false, S) ∧ run T w (n + 2) 43 [d] S = some (.bl false, S) := by
  have e0 : run T w (n + 1) 42 [d] S = some (.bl false, S) := by
    refine run_rts t42 rfl rfl ?_
    show exs _ _ b__law_is_name [some d, none] S = _
    simp only [b__law_is_name, exs, ex, ev, List.getElem?_cons_zero, hs, h1, Bool.not_false]
  rcases h2 with h2 | ⟨h2, k, h3, h4⟩
  · refine ⟨run_rts t12 rfl rfl ?_, run_rts t43 rfl rfl ?_⟩
    · show exs _ _ (isWrB 2 12) [some d] S = _
      simp only [isWrB, exs, ex, ev, List.getElem?_cons_zero, hs, h1, h2, Bool.not_false]
    · show exs _ _ b__law_is [some d] S = _
      simp only [b__law_is, exs, ex, ev, evs, List.getElem?_cons_zero, hs, h1, h2, Bool.not_false, e0]
  · have z : cmpD .NotEq (.int k) (.int 3) = some true := by
      show some (!decide (k = 3)) = _
      rw [decide_eq_false h4]; rfl
    refine ⟨run_rts t12 rfl rfl ?_, run_rts t43 rfl rfl ?_⟩
    · show exs _ _ (isWrB 2 12) [some d] S = _
      simp only [isWrB, exs, ex, ev, evs, seeAll, List.getElem?_cons_zero, hs, see_int, h1, h2, h3, z, Bool.not_true]
    · show exs _ _ b__law_is [some d] S = _
      simp only [b__law_is, exs, ex, ev, evs, seeAll, List.getElem?_cons_zero, hs, see_int, h1, h2, h3, z, Bool.not_true, e0]
theorem any_ns {d : D} (h : isS d = false) : [Ty.str].any (isTy d) = false := by
  cases d <;> first | (cases h; done) | rfl
theorem both_first {d a b c : D} (q : Sq3 d a b c) (ha : ∀ S, see S a = some a) (hn : cmpD .NotIn a (.tup [.str "of", .str "to"]) = some true) (n : Nat) (S : Sto) :
    run T w (n + 1) 12 [d] S = some (.bl false, S) ∧ run T w (n + 1) 43 [d] S = some (.bl false, S) := by
  obtain ⟨q1, q2, q3, q4, q5, q6, q7⟩ := q
  refine ⟨run_rts t12 rfl rfl ?_, run_rts t43 rfl rfl ?_⟩
  · show exs _ _ (isWrB 2 12) [some d] S = _
    simp only [isWrB, exs, ex, ev, evs, seeAll, List.getElem?_cons_zero, q1, q2, q3, q4, q5, see_int, see_tup, ha, ne_3, zs2, if_true, hn, Bool.not_true]
  · show exs _ _ b__law_is [some d] S = _
    cases hi : [Ty.str].any (isTy a) with
    | false => simp only [b__law_is, exs, ex, ev, evs, seeAll, List.getElem?_cons_zero, q1, q2, q3, q4, q5, see_int, see_tup, ha, ne_3, zs2, if_true, hi, Bool.not_true, Bool.not_false]
    | true => simp only [b__law_is, exs, ex, ev, evs, seeAll, List.getElem?_cons_zero, q1, q2, q3, q4, q5, see_int, see_tup, ha, ne_3, zs2, if_true, hi, hn, Bool.not_true, Bool.not_false]
theorem both_of {d b c : D} {nb wc : Bool} (q : Sq3 d (.str "of") b c) {n : Nat} {S : Sto} (b1 : run T w n 2 [b] S = some (.bl nb, S)) (b2 : run T w n 42 [b] S = some (.bl nb, S)) (c1 : run T w n 12 [c] S = some (.bl wc, S)) (c2 : run T w n 43 [c] S = some (.bl wc, S)) :
    run T w (n + 1) 12 [d] S = some (.bl (nb && wc), S) ∧ run T w (n + 1) 43 [d] S = some (.bl (nb && wc), S) := by
  obtain ⟨q1, q2, q3, q4, q5, q6, q7⟩ := q
  refine ⟨run_rts t12 rfl rfl ?_, run_rts t43 rfl rfl ?_⟩
  · show exs _ _ (isWrB 2 12) [some d] S = _
    cases nb with
    | false => simp only [isWrB, exs, ex, ev, evs, seeAll, List.getElem?_cons_zero, q1, q2, q3, q4, q5, q6, q7, see_int, see_tup, see_str, ne_3, zs2, if_true, notin_of, eqOO, b1, Bool.not_true, Bool.false_and]
    | true => simp only [isWrB, exs, ex, ev, evs, seeAll, List.getElem?_cons_zero, q1, q2, q3, q4, q5, q6, q7, see_int, see_tup, see_str, ne_3, zs2, if_true, notin_of, eqOO, b1, c1, Bool.not_true, Bool.true_and]
  · show exs _ _ b__law_is [some d] S = _
    cases wc with
    | false => simp only [b__law_is, exs, ex, ev, evs, seeAll, List.getElem?_cons_zero, q1, q2, q3, q4, q5, q6, q7, see_int, see_tup, see_str, any_s, ne_3, zs2, if_true, notin_of, c2, Bool.not_true, Bool.not_false, Bool.and_false]
    | true => simp only [b__law_is, exs, ex, ev, evs, seeAll, List.getElem?_cons_zero, q1, q2, q3, q4, q5, q6, q7, see_int, see_tup, see_str, any_s, ne_3, zs2, if_true, notin_of, c2, eqOO, b2, Bool.not_true, Bool.and_true]
theorem both_to {d b c : D} {wb wc : Bool} (q : Sq3 d (.str "to") b c) {n : Nat} {S : Sto} (b1 : run T w n 12 [b] S = some (.bl wb, S)) (b2 : run T w n 43 [b] S = some (.bl wb, S)) (c1 : run T w n 12 [c] S = some (.bl wc, S)) (c2 : run T w n 43 [c] S = some (.bl wc, S)) :
    run T w (n + 1) 12 [d] S = some (.bl (wb && wc), S) ∧ run T w (n + 1) 43 [d] S = some (.bl (wb && wc), S) := by
  obtain ⟨q1, q2, q3, q4, q5, q6, q7⟩ := q
  refine ⟨run_rts t12 rfl rfl ?_, run_rts t43 rfl rfl ?_⟩
  · show exs _ _ (isWrB 2 12) [some d] S = _
    cases wb with
    | false => simp only [isWrB, exs, ex, ev, evs, seeAll, List.getElem?_cons_zero, q1, q2, q3, q4, q5, q6, q7, see_int, see_tup, see_str, ne_3, zs2, if_true, notin_to, eqTO, b1, Bool.not_true, Bool.false_and]
    | true => simp only [isWrB, exs, ex, ev, evs, seeAll, List.getElem?_cons_zero, q1, q2, q3, q4, q5, q6, q7, see_int, see_tup, see_str, ne_3, zs2, if_true, notin_to, eqTO, b1, c1, Bool.not_true, Bool.true_and]
  · show exs _ _ b__law_is [some d] S = _
    cases wc with
    | false => simp only [b__law_is, exs, ex, ev, evs, seeAll, List.getElem?_cons_zero, q1, q2, q3, q4, q5, q6, q7, see_int, see_tup, see_str, any_s, ne_3, zs2, if_true, notin_to, c2, Bool.not_true, Bool.not_false, Bool.and_false]
    | true => simp only [b__law_is, exs, ex, ev, evs, seeAll, List.getElem?_cons_zero, q1, q2, q3, q4, q5, q6, q7, see_int, see_tup, see_str, any_s, ne_3, zs2, if_true, notin_to, c2, eqTO, b2, Bool.not_true, Bool.and_true]
theorem vl_see {d : D} (h : vl d = true) : ∀ S, see S d = some d := fun S => by cases d <;> first | (cases h; done) | rfl
def Both (w : Nat) (m : Nat) (d : D) : Prop := ∃ b, ∀ (n : Nat) (S : Sto), m + 2 ≤ n → run T w n 12 [d] S = some (.bl b, S) ∧ run T w n 43 [d] S = some (.bl b, S)
theorem both_sq {m : Nat} (ih : ∀ d, vl d = true → d.py.depth ≤ m → Both w m d) {d a b c : D} (q : Sq3 d a b c) (f : (a.flat || a.ok || a.isDct) = true) (va : vl a = true) (vb : vl b = true) (vc : vl c = true) (db : b.py.depth ≤ m) (dc : c.py.depth ≤ m) : Both w (m + 1) d := by
  by_cases hs : isS a = true
  · obtain ⟨x, rfl⟩ : ∃ x, a = .str x := by cases a <;> first | exact ⟨_, rfl⟩ | cases hs
    by_cases h1 : x = "of"
    · subst h1
      obtain ⟨nb, eb⟩ := wr_name (w := w) b vb
      obtain ⟨wc, ec⟩ := ih c vc dc
      refine ⟨nb && wc, fun n S hn => ?_⟩
      obtain ⟨n, rfl⟩ : ∃ k, n = k + 2 := ⟨n - 2, by omega⟩
      exact both_of q (eb n S).1 (eb n S).2 (ec (n + 1) S (by omega)).1 (ec (n + 1) S (by omega)).2
    · by_cases h2 : x = "to"
      · subst h2
        obtain ⟨wb, eb⟩ := ih b vb db
        obtain ⟨wc, ec⟩ := ih c vc dc
        refine ⟨wb && wc, fun n S hn => ?_⟩
        obtain ⟨n, rfl⟩ : ∃ k, n = k + 1 := ⟨n - 1, by omega⟩
        exact both_to q (eb n S (by omega)).1 (eb n S (by omega)).2 (ec n S (by omega)).1 (ec n S (by omega)).2
      · refine ⟨false, fun n S hn => ?_⟩
        obtain ⟨n, rfl⟩ : ∃ k, n = k + 1 := ⟨n - 1, by omega⟩
        exact both_first q (fun _ => rfl) (by rw [notin_s, decide_eq_false h1, decide_eq_false h2]; rfl) n S
  · have hs' : isS a = false := by simpa using hs
    refine ⟨false, fun n S hn => ?_⟩
    obtain ⟨n, rfl⟩ : ∃ k, n = k + 1 := ⟨n - 1, by omega⟩
    exact both_first q (vl_see va) (notin_ns hs' f) n S
theorem dep3 (a b c : D) : PyData.depthAll (D.pys [a, b, c]) = max a.py.depth (max b.py.depth (max c.py.depth 0)) := rfl
theorem both_seq {m : Nat} (ih : ∀ d, vl d = true → d.py.depth ≤ m → Both w m d) {xs : List D} {d : D} (hd : d = .tup xs ∨ d = .lst xs) (hv : (firstOk xs && vls xs) = true) (hdp : PyData.depthAll (D.pys xs) ≤ m) : Both w (m + 1) d := by
  have vd : vl d = true := by rcases hd with rfl | rfl <;> exact hv
  by_cases hl : xs.length = 3
  · match xs, hl with
    | [a, b, c], _ =>
      have q : Sq3 d a b c := by rcases hd with rfl | rfl; exact sq3_T a b c; exact sq3_L a b c
      rw [Bool.and_eq_true] at hv
      obtain ⟨v1, v2⟩ := hv
      have v2' : (vl a && (vl b && (vl c && true))) = true := v2
      simp only [Bool.and_eq_true] at v2'
      rw [dep3] at hdp
      exact both_sq ih q v1 v2'.1 v2'.2.1 v2'.2.2.1 (by omega) (by omega)
  · refine ⟨false, fun n S hn => ?_⟩
    obtain ⟨n, rfl⟩ : ∃ k, n = k + 2 := ⟨n - 2, by omega⟩
    refine both_no vd (vl_see vd) (by rcases hd with rfl | rfl <;> rfl) (.inr ⟨by rcases hd with rfl | rfl <;> rfl, xs.length, by rcases hd with rfl | rfl <;> rfl, by omega⟩) n S
theorem both_ok : ∀ (m : Nat) (d : D), vl d = true → d.py.depth ≤ m → Both w m d := by
  have atom : ∀ (m : Nat) (d : D), vl d = true → isS d = false → [Ty.list, .tuple].any (isTy d) = false → Both w m d := fun m d hv h1 h2 => ⟨false, fun n S hn => by
    obtain ⟨n, rfl⟩ : ∃ k, n = k + 2 := ⟨n - 2, by omega⟩
    exact both_no hv (vl_see hv) (any_ns h1) (.inl h2) n S⟩
  have hstr : ∀ (m : Nat) (x : Str), vl (.str x) = true → Both w m (.str x) := fun m x hv => by
    obtain ⟨b, e⟩ := wr_name (w := w) (.str x) hv
    refine ⟨b, fun n S hn => ?_⟩
    obtain ⟨n, rfl⟩ : ∃ k, n = k + 2 := ⟨n - 2, by omega⟩
    refine ⟨run_rts t12 rfl rfl ?_, run_rts t43 rfl rfl ?_⟩
    · show exs _ _ (isWrB 2 12) [some (.str x)] S = _
      simp only [isWrB, exs, ex, ev, evs, List.getElem?_cons_zero, see_str, any_s, (e n S).1]
    · show exs _ _ b__law_is [some (.str x)] S = _
      simp only [b__law_is, exs, ex, ev, evs, List.getElem?_cons_zero, see_str, any_s, (e n S).2]
  intro m
  induction m with
  | zero =>
    intro d hv hd
    cases d with
    | tup xs => simp only [D.py, PyData.depth] at hd; omega
    | lst xs => simp only [D.py, PyData.depth] at hd; omega
    | str x => exact hstr 0 x hv
    | non => exact atom 0 _ hv rfl rfl
    | bl b => exact atom 0 _ hv rfl rfl
    | int i => exact atom 0 _ hv rfl rfl
    | dct => exact atom 0 _ hv rfl rfl
    | ref i => cases hv
    | cl x ns => cases hv
  | succ m ih =>
    intro d hv hd
    cases d with
    | tup xs => simp only [D.py, PyData.depth] at hd; exact both_seq ih (.inl rfl) hv (by omega)
    | lst xs => simp only [D.py, PyData.depth] at hd; exact both_seq ih (.inr rfl) hv (by omega)
    | str x => exact hstr _ x hv
    | non => exact atom _ _ hv rfl rfl
    | bl b => exact atom _ _ hv rfl rfl
    | int i => exact atom _ _ hv rfl rfl
    | dct => exact atom _ _ hv rfl rfl
    | ref i => cases hv
    | cl x ns => cases hv
end Lk03

set_option Elab.async false
set_option linter.all false
set_option maxRecDepth 100000
set_option maxHeartbeats 4000000
namespace Lk03
open PySem Iv
variable {w n : Nat} {S : Sto}
theorem mapS_id {f : D → Sto → Option (D × Sto)} {S : Sto} : ∀ xs : List D, (∀ x ∈ xs, f x S = some (x, S)) → mapS f xs S = some (xs, S)
  | [], _ => rfl
  | x :: xs, h => by
    have ih := mapS_id xs fun y hy => h y (List.mem_cons_of_mem _ hy)
    simp only [mapS, h x List.mem_cons_self, ih]
theorem unders_mem {m : Nat} : ∀ {xs : List D}, D.unders m xs = true → ∀ x ∈ xs, D.under m x = true
  | [], _, x, h => by cases h
  | y :: xs, q, x, h => by
    have q' : (D.under m y && D.unders m xs) = true := q
    rw [Bool.and_eq_true] at q'
    rcases List.mem_cons.mp h with rfl | h
    · exact q'.1
    · exact unders_mem q'.2 x h
theorem depth_mem : ∀ {xs : List D} {k : Nat}, PyData.depthAll (D.pys xs) ≤ k → ∀ x ∈ xs, x.py.depth ≤ k
  | [], _, _, x, h => by cases h
  | y :: xs, k, q, x, h => by
    have q' : max y.py.depth (PyData.depthAll (D.pys xs)) ≤ k := q
    rcases List.mem_cons.mp h with rfl | h
    · omega
    · exact depth_mem (xs := xs) (by omega) x h
theorem deep_nr {S : Sto} : ∀ (m : Nat) (d : D), D.under 0 d = true → d.py.depth + 1 ≤ m → deep m d S = some (d, S)
  | 0, d, _, h => by omega
  | m + 1, d, hu, hd => by
    cases d with
    | ref i => simp [D.under] at hu
    | tup xs =>
      simp only [D.py, PyData.depth] at hd
      simp only [deep, mapS_id xs fun x hx => deep_nr m x (unders_mem hu x hx) (by have := depth_mem (k := PyData.depthAll (D.pys xs)) (Nat.le_refl _) x hx; omega)]
    | lst xs =>
      simp only [D.py, PyData.depth] at hd
      simp only [deep, mapS_id xs fun x hx => deep_nr m x (unders_mem hu x hx) (by have := depth_mem (k := PyData.depthAll (D.pys xs)) (Nat.le_refl _) x hx; omega)]
    | non => rfl
    | bl b => rfl
    | int i => rfl
    | str x => rfl
    | cl x ns => rfl
    | dct => rfl
theorem deep_str (m : Nat) (x : Str) (S : Sto) : deep (m + 1) (.str x) S = some (.str x, S) := rfl
theorem leave_clo0 {S X : Sto} {d : D} (h : clo S) (p : D.under 0 d = true) : leave S.length d (S ++ X) = S := by
  unfold leave
  rw [List.take_left, p, Bool.or_true, Bool.true_and, if_pos (show closedS S.length S = true from h)]
theorem run_rtc0 {T : List Fn} {f : Nat} {fn : Fn} {ds : List D} {S X : Sto} {d : D} (h : T[f]? = some fn) (hl : ds.length = fn.ar) (hc : clo S) (hp : D.under 0 d = true) (e : exs (run T w n) w fn.body (ds.map some ++ List.replicate (fn.sl - fn.ar) none) S = some (.rt d, S ++ X)) : run T w (n + 1) f ds S = some (d, S) := by
  rw [run_rt h hl e, leave_clo0 hc hp]
/-- the places of lists of a writing, dropped all the way in -/
def Lays (W : Wr) (k : Nat) (d : D) (X : Sto) : Prop := ∀ (m : Nat) (S' Y : Sto), S'.length = k → W.dp + 1 ≤ m → deep m d (S' ++ X ++ Y) = some (W.encL, S' ++ List.replicate X.length none ++ Y)
theorem t39 : T[39]? = some ⟨1, 2, (.cons (.ret (.ite (.isi (.v 0) [.str]) (.v 0) (.comp true (.n 1) (.v 0) (.call 39 (.cons (.v 1) .nil))))) .nil)⟩ := rfl
theorem listed_nm (x : Str) : run T w (n + 1) 39 [.str x] S = some (.str x, S) := by
  refine run_rts t39 rfl rfl ?_
  simp only [List.map_cons, List.map_nil, Nat.reduceSub, List.replicate_succ, List.replicate_zero, List.cons_append, List.nil_append, exs, ex, ev, List.getElem?_cons_zero, see_str, any_s]
theorem ev_compM3 {F : CF} {i : Nat} {it elt : E} {ρ : Iv.Env} {S S1 S2 S3 S4 : Sto} {x a b c a' b' c' : D} (h1 : ev F it ρ S = some (x, S1)) (h2 : items x = some [a, b, c])
    (ha : ev F elt ((ρ.set i none).set i (some a)) S1 = some (a', S2)) (hb : ev F elt ((ρ.set i none).set i (some b)) S2 = some (b', S3)) (hc : ev F elt ((ρ.set i none).set i (some c)) S3 = some (c', S4)) :
    ev F (.comp true (.n i) it elt) ρ S = some (.ref S4.length, S4 ++ [some [a', b', c']]) := by
  simp only [ev, h1, h2, compRun, setT, wipeT, ha, hb, hc, List.length_nil, List.length_cons, List.length_append, small, mkList, List.nil_append, List.cons_append]
  rfl
theorem leave_ref {S X : Sto} {i : Nat} : leave S.length (.ref i) (S ++ X) = S ++ X := by
  unfold leave
  rw [if_neg (by simp [D.pure, D.under])]
theorem listed_sq {a b c a' b' c' : D} {S S2 S3 : Sto} {X : Sto} (ha : run T w n 39 [a] S = some (a', S2)) (hb : run T w n 39 [b] S2 = some (b', S3)) (hc : run T w n 39 [c] S3 = some (c', S ++ X)) :
    run T w (n + 1) 39 [.tup [a, b, c]] S = some (.ref (S.length + X.length), S ++ (X ++ [some [a', b', c']])) := by
  have e : ev (run T w n) (.comp true (.n 1) (.v 0) (.call 39 (.cons (.v 1) .nil))) [some (.tup [a, b, c]), none] S = some (.ref (S ++ X).length, (S ++ X) ++ [some [a', b', c']]) := by
    refine ev_compM3 (S2 := S2) (S3 := S3) (x := .tup [a, b, c]) rfl rfl ?_ ?_ ?_
    · simp only [ev, evs, List.set_cons_succ, List.set_cons_zero, List.getElem?_cons_zero, List.getElem?_cons_succ, ha]
    · simp only [ev, evs, List.set_cons_succ, List.set_cons_zero, List.getElem?_cons_zero, List.getElem?_cons_succ, hb]
    · simp only [ev, evs, List.set_cons_succ, List.set_cons_zero, List.getElem?_cons_zero, List.getElem?_cons_succ, hc]
  rw [List.append_assoc, List.length_append] at e
  have z : [Ty.str].any (isTy (.tup [a, b, c])) = false := rfl
  rw [run_rt (d := .ref (S.length + X.length)) (S1 := S ++ (X ++ [some [a', b', c']])) t39 rfl ?_, leave_ref]
  simp only [List.map_cons, List.map_nil, Nat.reduceSub, List.replicate_succ, List.replicate_zero, List.cons_append, List.nil_append]
  rw [exs, ex, ev]
  have z1 : ev (run T w n) (.isi (.v 0) [.str]) [some (.tup [a, b, c]), none] S = some (.bl false, S) := by
    simp only [ev, List.getElem?_cons_zero, see_tup, z]
  simp only [z1, e]
theorem clo_nones {S : Sto} (h : clo S) (k : Nat) : clo (S ++ List.replicate k none) := clo_app h (by
  unfold closedS
  rw [List.all_eq_true]
  intro o ho
  rw [List.eq_of_mem_replicate ho])
theorem get_at {S X Y : Sto} {o : Option (List D)} : (S ++ (X ++ [o]) ++ Y)[S.length + X.length]? = some o := by
  rw [List.append_assoc, List.append_assoc, List.getElem?_append_right (by omega), Nat.add_sub_cancel_left, List.getElem?_append_right (Nat.le_refl _), Nat.sub_self]
  rfl
theorem set_at {S X Y : Sto} {o p : Option (List D)} : (S ++ (X ++ [o]) ++ Y).set (S.length + X.length) p = S ++ (X ++ [p]) ++ Y := by
  rw [List.append_assoc, List.append_assoc, List.set_append_right _ _ (by omega), Nat.add_sub_cancel_left, List.set_append_right _ _ (Nat.le_refl _), Nat.sub_self]
  simp
theorem rep_snoc (k : Nat) : List.replicate k (none : Option (List D)) ++ [none] = List.replicate (k + 1) none := by
  rw [List.replicate_succ']
theorem rep_add (j k : Nat) : List.replicate j (none : Option (List D)) ++ List.replicate k none = List.replicate (j + k) none := by
  rw [List.replicate_append_replicate]
theorem closed_entry {S X : Sto} {xs : List D} (h : clo (S ++ X)) (hx : D.unders (S.length + X.length) xs = true) : clo (S ++ (X ++ [some xs])) := by
  rw [← List.append_assoc]
  refine clo_app h ?_
  show (D.unders _ xs && true) = true
  rw [List.length_append, unders_mono (by omega) xs hx]; rfl
/-- told as lists that may change -/
structure Lst (w : Nat) (W : Wr) (n : Nat) (S : Sto) (d : D) (X : Sto) : Prop where
  run : run T w n 39 [W.enc] S = some (d, S ++ X)
  clo : clo (S ++ X)
  len : X.length ≤ W.size
  und : D.under (S.length + X.length) d = true
  lay : Lays W S.length d X
theorem lst_nm {x : Str} (hn : 1 ≤ n) (hc : clo S) : Lst w (.nm x) n S (.str x) [] := by
  obtain ⟨n, rfl⟩ : ∃ m, n = m + 1 := ⟨n - 1, by omega⟩
  refine ⟨by rw [List.append_nil]; exact listed_nm x, by rw [List.append_nil]; exact hc, Nat.zero_le _, rfl, fun m S' Y _ hm => ?_⟩
  obtain ⟨m, rfl⟩ : ∃ k, m = k + 1 := ⟨m - 1, by omega⟩
  simp [deep, Wr.encL]
theorem lst_of {x : Str} {b : Wr} {db : D} {Xb : Sto} (h : Lst w b (n + 1) S db Xb) : Lst w (.of x b) (n + 2) S (.ref (S.length + Xb.length)) (Xb ++ [some [.str "of", .str x, db]]) := by
  refine ⟨listed_sq (listed_nm _) (listed_nm _) h.run, closed_entry h.clo ?_, by have := h.len; simp only [List.length_append, List.length_cons, List.length_nil, Wr.size]; omega, ?_, fun m S' Y hS hm => ?_⟩
  · show (true && (true && (D.under _ db && true))) = true
    rw [h.und]; rfl
  · exact decide_eq_true (by simp only [List.length_append, List.length_cons, List.length_nil]; omega)
  · simp only [Wr.dp] at hm
    obtain ⟨m, rfl⟩ : ∃ k, m = k + 2 := ⟨m - 2, by omega⟩
    have e := h.lay (m + 1) S' ([none] ++ Y) hS (by omega)
    have g := get_at (S := S') (X := Xb) (Y := Y) (o := some [.str "of", .str x, db])
    have s := set_at (S := S') (X := Xb) (Y := Y) (o := some [.str "of", .str x, db]) (p := none)
    rw [hS] at g s
    have a1 : S' ++ (Xb ++ [none]) ++ Y = S' ++ Xb ++ ([none] ++ Y) := by simp
    have a2 : S' ++ List.replicate Xb.length none ++ ([none] ++ Y) = S' ++ List.replicate (Xb ++ [some [.str "of", .str x, db]]).length none ++ Y := by
      rw [List.length_append, List.length_cons, List.length_nil, Nat.zero_add, ← rep_snoc]; simp
    have nob : isObj [.str "of", .str x, db] = false := rfl
    rw [← a2]
    unfold deep
    simp only [g, s, a1, nob, Bool.false_eq_true, if_false, mapS, deep_str, e, Wr.encL]
theorem lst_to {a b : Wr} {da db : D} {Xa Xb : Sto} (ha : Lst w a (n + 1) S da Xa) (hb : Lst w b (n + 1) (S ++ Xa) db Xb) : Lst w (.to a b) (n + 2) S (.ref (S.length + (Xa ++ Xb).length)) (Xa ++ Xb ++ [some [.str "to", da, db]]) := by
  have hb1 := hb.run
  have hb2 := hb.clo
  have hb3 := hb.und
  rw [List.append_assoc] at hb1 hb2
  rw [List.length_append] at hb3
  refine ⟨listed_sq (listed_nm _) ha.run hb1, closed_entry hb2 ?_, by have := ha.len; have := hb.len; simp only [List.length_append, List.length_cons, List.length_nil, Wr.size]; omega, ?_, fun m S' Y hS hm => ?_⟩
  · show (true && (D.under _ da && (D.under _ db && true))) = true
    rw [under_mono (by rw [List.length_append]; omega) da ha.und, under_mono (by rw [List.length_append]; omega) db hb3]; rfl
  · exact decide_eq_true (by simp only [List.length_append, List.length_cons, List.length_nil]; omega)
  · simp only [Wr.dp] at hm
    obtain ⟨m, rfl⟩ : ∃ k, m = k + 2 := ⟨m - 2, by omega⟩
    have e1 := ha.lay (m + 1) S' (Xb ++ [none] ++ Y) hS (by omega)
    have e2 := hb.lay (m + 1) (S' ++ List.replicate Xa.length none) ([none] ++ Y) (by simp [hS]) (by omega)
    have g := get_at (S := S') (X := Xa ++ Xb) (Y := Y) (o := some [.str "to", da, db])
    have s := set_at (S := S') (X := Xa ++ Xb) (Y := Y) (o := some [.str "to", da, db]) (p := none)
    rw [hS] at g s
    have a1 : S' ++ (Xa ++ Xb ++ [none]) ++ Y = S' ++ Xa ++ (Xb ++ [none] ++ Y) := by simp
    have a3 : S' ++ List.replicate Xa.length none ++ (Xb ++ [none] ++ Y) = S' ++ List.replicate Xa.length none ++ Xb ++ ([none] ++ Y) := by simp
    have a2 : S' ++ List.replicate Xa.length none ++ List.replicate Xb.length none ++ ([none] ++ Y) = S' ++ List.replicate (Xa ++ Xb ++ [some [.str "to", da, db]]).length none ++ Y := by
      simp only [List.length_append, List.length_cons, List.length_nil, Nat.zero_add]
      rw [← rep_snoc, ← rep_add]; simp
    have nob : isObj [.str "to", da, db] = false := rfl
    rw [a3] at e1
    rw [← a2]
    unfold deep
    simp only [g, s, a1, nob, Bool.false_eq_true, if_false, mapS, deep_str, e1, e2, Wr.encL]
theorem listed_ok : ∀ (W : Wr) (n : Nat) (S : Sto), W.dp + 1 ≤ n → clo S → ∃ d X, Lst w W n S d X
  | .nm x, n, S, hn, hc => ⟨_, _, lst_nm hn hc⟩
  | .of x b, n, S, hn, hc => by
    simp only [Wr.dp] at hn
    obtain ⟨n, rfl⟩ : ∃ m, n = m + 2 := ⟨n - 2, by omega⟩
    obtain ⟨d, X, h⟩ := listed_ok b (n + 1) S (by omega) hc
    exact ⟨_, _, lst_of h⟩
  | .to a b, n, S, hn, hc => by
    simp only [Wr.dp] at hn
    obtain ⟨n, rfl⟩ : ∃ m, n = m + 2 := ⟨n - 2, by omega⟩
    obtain ⟨d, X, h⟩ := listed_ok a (n + 1) S (by omega) hc
    obtain ⟨e, Y, k⟩ := listed_ok b (n + 1) (S ++ X) (by omega) h.clo
    exact ⟨_, _, lst_to h k⟩
def bentV : List Bool → Wr → D → D
  | [], _, o => o
  | _ :: _, .nm _, o => o
  | _ :: p, .of x b, o => .lst [.str "of", .str x, bentV p b o]
  | c :: p, .to a b, o => if c then .lst [.str "to", a.encL, bentV p b o] else .lst [.str "to", bentV p a o, b.encL]
theorem encL_und : ∀ (W : Wr) (k : Nat), D.under k W.encL = true
  | .nm _, _ => rfl
  | .of x b, k => by
    show (true && (true && (D.under k b.encL && true))) = true
    rw [encL_und b]; rfl
  | .to a b, k => by
    show (true && (D.under k a.encL && (D.under k b.encL && true))) = true
    rw [encL_und a, encL_und b]; rfl
theorem bent_und {o : D} (h : D.under 0 o = true) : ∀ (p : List Bool) (W : Wr), D.under 0 (bentV p W o) = true
  | [], _ => h
  | _ :: _, .nm _ => h
  | _ :: p, .of x b => by
    show (true && (true && (D.under 0 (bentV p b o) && true))) = true
    rw [bent_und h p b]; rfl
  | c :: p, .to a b => by
    cases c
    · show (true && (D.under 0 (bentV p a o) && (D.under 0 b.encL && true))) = true
      rw [bent_und h p a, encL_und b]; rfl
    · show (true && (D.under 0 a.encL && (D.under 0 (bentV p b o) && true))) = true
      rw [bent_und h p b, encL_und a]; rfl
theorem encL_dp : ∀ W : Wr, W.encL.py.depth ≤ W.dp
  | .nm _ => Nat.le_refl _
  | .of x b => by have := encL_dp b; simp only [Wr.encL, D.py, D.pys, PyData.depth, PyData.depthAll, Wr.dp]; omega
  | .to a b => by have := encL_dp a; have := encL_dp b; simp only [Wr.encL, D.py, D.pys, PyData.depth, PyData.depthAll, Wr.dp]; omega
theorem bent_dp (o : D) : ∀ (p : List Bool) (W : Wr), (bentV p W o).py.depth ≤ W.dp + o.py.depth
  | [], _ => Nat.le_add_left _ _
  | _ :: _, .nm _ => Nat.le_add_left _ _
  | _ :: p, .of x b => by have := bent_dp o p b; simp only [bentV, D.py, D.pys, PyData.depth, PyData.depthAll, Wr.dp]; omega
  | c :: p, .to a b => by
    have := bent_dp o p a; have := bent_dp o p b; have := encL_dp a; have := encL_dp b
    cases c
    · show PyData.depthAll (D.pys [.str "to", bentV p a o, b.encL]) + 1 ≤ _
      simp only [D.py, D.pys, PyData.depth, PyData.depthAll, Wr.dp]; omega
    · show PyData.depthAll (D.pys [.str "to", a.encL, bentV p b o]) + 1 ≤ _
      simp only [D.py, D.pys, PyData.depth, PyData.depthAll, Wr.dp]; omega
theorem vl_nm {x : Str} (h : nmOk x = true) : vl (.str x) = true := by
  show (decide (x.length ≤ 1000) && PyData.strOk x) = true
  rw [nm_lay h, decide_eq_true (by have := (nm_not h).2.2.2; omega)]; rfl
theorem vl3 {a b c : D} {x : Str} (ha : a = .str x) (h : vl a = true) (hb : vl b = true) (hc : vl c = true) : vl (.lst [a, b, c]) = true := by
  show (firstOk [a, b, c] && (vl a && (vl b && (vl c && true)))) = true
  rw [h, hb, hc, ha]; rfl
theorem vl_of : vl (.str "of") = true := by decide +kernel
theorem vl_to : vl (.str "to") = true := by decide +kernel
theorem encL_vl : ∀ W : Wr, Good W → vl W.encL = true
  | .nm x, h => vl_nm (h x List.mem_cons_self)
  | .of x b, h => vl3 rfl vl_of (vl_nm (h x List.mem_cons_self)) (encL_vl b fun y hy => h y (List.mem_cons_of_mem _ hy))
  | .to a b, h => vl3 rfl vl_to (encL_vl a fun y hy => h y (List.mem_append_left _ hy)) (encL_vl b fun y hy => h y (List.mem_append_right _ hy))
theorem bent_vl {o : D} (h : vl o = true) : ∀ (p : List Bool) (W : Wr), Good W → vl (bentV p W o) = true
  | [], _, _ => h
  | _ :: _, .nm _, _ => h
  | _ :: p, .of x b, g => vl3 rfl vl_of (vl_nm (g x List.mem_cons_self)) (bent_vl h p b fun y hy => g y (List.mem_cons_of_mem _ hy))
  | c :: p, .to a b, g => by
    have ga : Good a := fun y hy => g y (List.mem_append_left _ hy)
    have gb : Good b := fun y hy => g y (List.mem_append_right _ hy)
    cases c
    · exact vl3 rfl vl_to (bent_vl h p a ga) (encL_vl b gb)
    · exact vl3 rfl vl_to (encL_vl a ga) (bent_vl h p b gb)
theorem t44 : T[44]? = some ⟨3, 5, b__law_bent⟩ := rfl
theorem set_top {S X : Sto} {o p : Option (List D)} : (S ++ (X ++ [o])).set (S.length + X.length) p = S ++ (X ++ [p]) := by
  have := set_at (S := S) (X := X) (Y := []) (o := o) (p := p)
  simpa using this
theorem get_top {S X : Sto} {o : Option (List D)} : (S ++ (X ++ [o]))[S.length + X.length]? = some o := by
  have := get_at (S := S) (X := X) (Y := []) (o := o)
  simpa using this
/-- a turn of the bending: the list made, one part of it put -/
theorem bent_step {W U : Wr} {c : Bool} {p : List Bool} {o v a b e a' b' e' : D} {k : Nat} {X X' : Sto} (hW : ∃ s : Str, W.enc = .tup [.str s, b, e] ∧ a = .str s ∧ ((s = "of" ∧ k = 2) ∨ (s = "to" ∧ k = (if c then 2 else 1)))) (hU : L2.atI [a, b, e] (k : Int) = some U.enc)
    (h1 : run T w n 39 [W.enc] S = some (.ref (S.length + X.length), S ++ (X ++ [some [a, b', e']])))
    (h2 : run T w n 44 [U.enc, wyT p, o] (S ++ (X ++ [some [a, b', e']])) = some (v, S ++ (X ++ [some [a, b', e']])))
    (h3 : deep 1000 (.ref (S.length + X.length)) (S ++ (X ++ [some ([a, b', e'].set k v)])) = some (a', S ++ X'))
    (hc : clo S) (hu : D.under 0 a' = true) (hk : k = 1 ∨ k = 2) : run T w (n + 1) 44 [W.enc, wyT (c :: p), o] S = some (a', S) := by
  obtain ⟨s, hw, rfl, hs⟩ := hW
  refine run_rtc0 (X := X') t44 rfl hc hu ?_
  show exs _ _ b__law_bent [some W.enc, some (wyT (c :: p)), some o, none, none] S = _
  have z : cmpD .Eq (wyT (c :: p)) (.tup []) = some false := eq_wy (c :: p) []
  have s1 : ex (run T w n) w (.ifs (.cmp .Eq (.v 1) (.tup .nil)) (.cons (.ret (.v 2)) .nil) .nil) [some W.enc, some (wyT (c :: p)), some o, none, none] S = some (.nx [some W.enc, some (wyT (c :: p)), some o, none, none], S) := by
    simp only [ex, exs, ev, evs, List.getElem?_cons_zero, List.getElem?_cons_succ, zs0, if_true, see_wy, see_tup, z]
  have s2 : ex (run T w n) w (.asg (.n 3) (.call 39 (.cons (.v 0) .nil))) [some W.enc, some (wyT (c :: p)), some o, none, none] S = some (.nx [some W.enc, some (wyT (c :: p)), some o, some (.ref (S.length + X.length)), none], S ++ (X ++ [some [.str s, b', e']])) := by
    simp only [ex, ev, evs, List.getElem?_cons_zero, h1, setT, List.set_cons_succ, List.set_cons_zero]
  have zi : ixD (wyT (c :: p)) (.int 0) = some (stp c) := wy0 c p
  have i0 : ixD (.tup [.str s, b, e]) (.int 0) = some (.str s) := rfl
  have s3 : ∀ (S0 S : Sto), ex (run T w n) w (.asg (.n 4) (.ite (.cmp .Eq (.ix (.v 0) (.c (.int 0))) (.c (.str "of"))) (.c (.int 2)) (.op .Add (.c (.int 1)) (.ix (.v 1) (.c (.int 0)))))) [some W.enc, some (wyT (c :: p)), some o, some (.ref (S0.length + X.length)), none] S = some (.nx [some W.enc, some (wyT (c :: p)), some o, some (.ref (S0.length + X.length)), some (.int k)], S) := fun S0 S => by
    rw [hw]
    rcases hs with ⟨rfl, rfl⟩ | ⟨rfl, rfl⟩
    · simp only [ex, ev, List.getElem?_cons_zero, see_tup, i0, see_str, eqOO, setT, List.set_cons_succ, List.set_cons_zero]
      rfl
    · cases c
      · simp only [ex, ev, List.getElem?_cons_zero, List.getElem?_cons_succ, see_tup, i0, see_str, eqTO, see_wy, zi, see_int, stp, bit, op_add, setT, List.set_cons_succ, List.set_cons_zero, Bool.false_eq_true, if_false]
        rfl
      · simp only [ex, ev, List.getElem?_cons_zero, List.getElem?_cons_succ, see_tup, i0, see_str, eqTO, see_wy, zi, see_int, stp, bit, op_add, setT, List.set_cons_succ, List.set_cons_zero, if_true]
        rfl
  have zc : slD (wyT (c :: p)) (some 1) none = some (wyT p) := cut1 _ _
  have zb1 : ((isNonE (E.c (.int 1)) || isIntD (.int 1)) && (isNonE (E.c .non) || isIntD .non)) = true := rfl
  have ik : ixD (.tup [.str s, b, e]) (.int k) = some U.enc := hU
  have kk : L2.ixN [D.str s, b', e'].length (k : Int) = some k := by rcases hk with rfl | rfl <;> rfl
  have nob : isObj [D.str s, b', e'] = false := rfl
  have g := get_top (S := S) (X := X) (o := some [D.str s, b', e'])
  have t := set_top (S := S) (X := X) (o := some [D.str s, b', e']) (p := some ([D.str s, b', e'].set k v))
  have s4 : ex (run T w n) w (.put (.v 3) (.v 4) (.call 44 (.cons (.ix (.v 0) (.v 4)) (.cons (.sl (.v 1) (.c (.int 1)) (.c .non)) (.cons (.v 2) .nil))))) [some W.enc, some (wyT (c :: p)), some o, some (.ref (S.length + X.length)), some (.int k)] (S ++ (X ++ [some [.str s, b', e']])) = some (.nx [some W.enc, some (wyT (c :: p)), some o, some (.ref (S.length + X.length)), some (.int k)], S ++ (X ++ [some ([D.str s, b', e'].set k v)])) := by
    have ea : ev (run T w n) (.call 44 (.cons (.ix (.v 0) (.v 4)) (.cons (.sl (.v 1) (.c (.int 1)) (.c .non)) (.cons (.v 2) .nil)))) [some W.enc, some (wyT (c :: p)), some o, some (.ref (S.length + X.length)), some (.int k)] (S ++ (X ++ [some [.str s, b', e']])) = some (v, S ++ (X ++ [some [.str s, b', e']])) := by
      rw [hw]
      simp only [ev, evs, List.getElem?_cons_zero, List.getElem?_cons_succ, see_tup, ik, see_wy, part?, zb1, zc, if_true, h2]
    rw [ex, ea]
    simp only [ev, List.getElem?_cons_zero, List.getElem?_cons_succ, g, kk, nob, Bool.false_eq_true, if_false, t]
  have s5 : ex (run T w n) w (.ret (.frzD 3)) [some W.enc, some (wyT (c :: p)), some o, some (.ref (S.length + X.length)), some (.int k)] (S ++ (X ++ [some ([D.str s, b', e'].set k v)])) = some (.rt a', S ++ X') := by
    simp only [ex, ev, List.getElem?_cons_zero, List.getElem?_cons_succ, h3]
  rw [b__law_bent, exs, s1]
  simp only []
  rw [exs, s2]
  simp only []
  rw [exs, s3]
  simp only []
  rw [exs, s4]
  simp only []
  rw [exs, s5]
theorem bent_ok {o : D} (ho : D.under 0 o = true) (hod : o.py.depth ≤ 100) : ∀ (p : List Bool) (W V : Wr) (n : Nat) (S : Sto), W.at? p = some V → W.dp ≤ 300 → W.dp + 2 ≤ n → clo S → run T w n 44 [W.enc, wyT p, o] S = some (bentV p W o, S)
  | [], W, V, n, S, h, hd, hn, hc => by
    obtain ⟨n, rfl⟩ : ∃ m, n = m + 1 := ⟨n - 1, by omega⟩
    refine run_rts t44 rfl rfl ?_
    have z : cmpD .Eq (wyT []) (.tup []) = some true := eq_wy [] []
    show exs _ _ b__law_bent [some W.enc, some (wyT []), some o, none, none] S = _
    simp only [b__law_bent, exs, ex, ev, evs, List.getElem?_cons_zero, List.getElem?_cons_succ, zs0, if_true, see_wy, see_tup, z, bentV]
  | c :: p, .nm x, V, n, S, h, _, _, _ => by cases h
  | c :: p, .of x b, V, n, S, h, hd, hn, hc => by
    simp only [Wr.dp] at hn hd
    cases c with
    | true => cases h
    | false =>
    obtain ⟨n, rfl⟩ : ∃ m, n = m + 3 := ⟨n - 3, by omega⟩
    obtain ⟨db, X, L⟩ := listed_ok (w := w) b (n + 1) S (by omega) hc
    have M := lst_of (x := x) L
    have ih := bent_ok ho hod p b V (n + 2) (S ++ (X ++ [some [.str "of", .str x, db]])) h (by omega) (by omega) M.clo
    have hbu := bent_und ho p b
    have hbd := bent_dp o p b
    refine bent_step (W := .of x b) (U := b) (k := 2) (a := .str "of") (b := .str x) (e := b.enc) (b' := .str x) (e' := db) (X := X) (X' := X ++ [none]) ⟨"of", rfl, rfl, .inl ⟨rfl, rfl⟩⟩ rfl M.run ih ?_ hc (bent_und ho (false :: p) (.of x b)) (.inr rfl)
    have g := get_top (S := S) (X := X) (o := some [.str "of", .str x, bentV p b o])
    have s := set_top (S := S) (X := X) (o := some [.str "of", .str x, bentV p b o]) (p := none)
    have nob : isObj [.str "of", .str x, bentV p b o] = false := rfl
    have e := deep_nr (S := S ++ (X ++ [none])) 999 (bentV p b o) hbu (by omega)
    show deep 1000 (.ref (S.length + X.length)) (S ++ (X ++ [some [.str "of", .str x, bentV p b o]])) = _
    unfold deep
    have d1 := fun x S => deep_str 998 x S
    simp only [g, s, nob, Bool.false_eq_true, if_false, mapS, d1, e, bentV]
  | c :: p, .to a b, V, n, S, h, hd, hn, hc => by
    simp only [Wr.dp] at hn hd
    obtain ⟨n, rfl⟩ : ∃ m, n = m + 3 := ⟨n - 3, by omega⟩
    obtain ⟨da, Xa, La⟩ := listed_ok (w := w) a (n + 1) S (by omega) hc
    obtain ⟨db, Xb, Lb⟩ := listed_ok (w := w) b (n + 1) (S ++ Xa) (by omega) La.clo
    have M := lst_to La Lb
    cases c with
    | false =>
      have ih := bent_ok ho hod p a V (n + 2) (S ++ (Xa ++ Xb ++ [some [.str "to", da, db]])) h (by omega) (by omega) M.clo
      have hbu := bent_und ho p a
      have hbd := bent_dp o p a
      refine bent_step (W := .to a b) (U := a) (k := 1) (a := .str "to") (b := a.enc) (e := b.enc) (b' := da) (e' := db) (X := Xa ++ Xb) (X' := Xa ++ List.replicate Xb.length none ++ [none]) ⟨"to", rfl, rfl, .inr ⟨rfl, rfl⟩⟩ rfl M.run ih ?_ hc (bent_und ho (false :: p) (.to a b)) (.inl rfl)
      have g := get_top (S := S) (X := Xa ++ Xb) (o := some [.str "to", bentV p a o, db])
      have s := set_top (S := S) (X := Xa ++ Xb) (o := some [.str "to", bentV p a o, db]) (p := none)
      have nob : isObj [.str "to", bentV p a o, db] = false := rfl
      have a1 : S ++ (Xa ++ Xb ++ [none]) = S ++ Xa ++ Xb ++ [none] := by simp
      have e := deep_nr (S := S ++ Xa ++ Xb ++ [none]) 999 (bentV p a o) hbu (by omega)
      have e2 := Lb.lay 999 (S ++ Xa) [none] rfl (by omega)
      show deep 1000 (.ref (S.length + (Xa ++ Xb).length)) (S ++ (Xa ++ Xb ++ [some [.str "to", bentV p a o, db]])) = _
      unfold deep
      have d1 := fun x S => deep_str 998 x S
      simp only [g, s, nob, Bool.false_eq_true, if_false, a1, mapS, d1, e, e2, bentV]
      simp only [List.append_assoc]
    | true =>
      have ih := bent_ok ho hod p b V (n + 2) (S ++ (Xa ++ Xb ++ [some [.str "to", da, db]])) h (by omega) (by omega) M.clo
      have hbu := bent_und ho p b
      have hbd := bent_dp o p b
      refine bent_step (W := .to a b) (U := b) (k := 2) (a := .str "to") (b := a.enc) (e := b.enc) (b' := da) (e' := db) (X := Xa ++ Xb) (X' := List.replicate Xa.length none ++ (Xb ++ [none])) ⟨"to", rfl, rfl, .inr ⟨rfl, rfl⟩⟩ rfl M.run ih ?_ hc (bent_und ho (true :: p) (.to a b)) (.inr rfl)
      have g := get_top (S := S) (X := Xa ++ Xb) (o := some [.str "to", da, bentV p b o])
      have s := set_top (S := S) (X := Xa ++ Xb) (o := some [.str "to", da, bentV p b o]) (p := none)
      have nob : isObj [.str "to", da, bentV p b o] = false := rfl
      have a1 : S ++ (Xa ++ Xb ++ [none]) = S ++ Xa ++ (Xb ++ [none]) := by simp
      have e2 := La.lay 999 S (Xb ++ [none]) rfl (by omega)
      have e := deep_nr (S := S ++ List.replicate Xa.length none ++ (Xb ++ [none])) 999 (bentV p b o) hbu (by omega)
      show deep 1000 (.ref (S.length + (Xa ++ Xb).length)) (S ++ (Xa ++ Xb ++ [some [.str "to", da, bentV p b o]])) = _
      unfold deep
      have d1 := fun x S => deep_str 998 x S
      simp only [g, s, nob, Bool.false_eq_true, if_false, if_true, a1, mapS, d1, e2, e, bentV]
      simp only [List.append_assoc]
end Lk03

set_option Elab.async false
set_option linter.all false
set_option maxRecDepth 100000
set_option maxHeartbeats 4000000
namespace Lk03
open PySem Iv
variable {w n : Nat} {S : Sto}
def eA : Es := (.cons (.c .non) (.cons (.c (.int 5)) (.cons (.c (.bl true)) (.cons (.c (.int 0)) (.cons (.tup .nil) (.cons (.lst .nil) (.cons (.dct []) (.cons (.c (.str "")) (.cons (.c (.str "of")) (.cons (.c (.str "to")) (.cons (.c (.str "A")) (.cons (.c (.str "a b")) (.cons (.op .Mult (.c (.str "x")) (.c (.int 13))) (.cons (.op .Mult (.c (.str "x")) (.c (.int 12))) (.cons (.c (.str "1a")) (.cons (.c (.str "a_")) (.cons (.c (.str "ofx")) (.cons (.c (.str "to9")) (.cons (.c (.str "x\n")) (.cons (.tup (.cons (.c (.str "of")) (.cons (.c (.str "x")) .nil))) .nil))))))))))))))))))))
def sA : List D := [.non, (.int 5), (.bl true), (.int 0), (.tup []), (.lst []), .dct, (.str ""), (.str "of"), (.str "to"), (.str "A"), (.str "a b"), (.str "xxxxxxxxxxxxx"), (.str "xxxxxxxxxxxx"), (.str "1a"), (.str "a_"), (.str "ofx"), (.str "to9"), (.str "x\n"), (.tup [(.str "of"), (.str "x")])]
def eB : Es := (.cons (.tup (.cons (.c (.str "to")) (.cons (.c (.str "a")) .nil))) (.cons (.tup (.cons (.c (.str "of")) (.cons (.c (.str "x")) (.cons (.c (.str "y")) (.cons (.c (.str "z")) .nil))))) (.cons (.tup (.cons (.c (.str "to")) (.cons (.c (.str "a")) (.cons (.c (.str "b")) (.cons (.c (.str "c")) .nil))))) (.cons (.tup (.cons (.c (.str "of")) (.cons (.c (.str "of")) (.cons (.c (.str "x")) .nil)))) (.cons (.tup (.cons (.c (.str "of")) (.cons (.c (.str "X")) (.cons (.c (.str "x")) .nil)))) (.cons (.tup (.cons (.c (.str "of")) (.cons (.c (.int 5)) (.cons (.c (.str "x")) .nil)))) (.cons (.tup (.cons (.c (.str "of")) (.cons (.lst (.cons (.c (.str "x")) .nil)) (.cons (.c (.str "x")) .nil)))) .nil)))))))
def sB : List D := [(.tup [(.str "to"), (.str "a")]), (.tup [(.str "of"), (.str "x"), (.str "y"), (.str "z")]), (.tup [(.str "to"), (.str "a"), (.str "b"), (.str "c")]), (.tup [(.str "of"), (.str "of"), (.str "x")]), (.tup [(.str "of"), (.str "X"), (.str "x")]), (.tup [(.str "of"), (.int 5), (.str "x")]), (.tup [(.str "of"), (.lst [(.str "x")]), (.str "x")])]
def eC : Es := (.cons (.tup (.cons (.c (.str "to")) (.cons (.c (.str "a")) (.cons (.c .non) .nil)))) (.cons (.tup (.cons (.c (.str "to")) (.cons (.c (.str "to")) (.cons (.c (.str "a")) .nil)))) (.cons (.tup (.cons (.c (.str "of")) (.cons (.tup (.cons (.c (.str "of")) (.cons (.c (.str "x")) (.cons (.c (.str "x")) .nil)))) (.cons (.c (.str "x")) .nil)))) (.cons (.lst (.cons (.c (.str "of")) (.cons (.c (.str "x")) (.cons (.lst (.cons (.c (.str "to")) (.cons (.c (.str "x")) (.cons (.c (.str "x")) .nil)))) .nil)))) (.cons (.tup (.cons (.c (.str "in")) (.cons (.c (.str "x")) (.cons (.c (.str "y")) .nil)))) (.cons (.tup (.cons (.c (.str "OF")) (.cons (.c (.str "x")) (.cons (.c (.str "x")) .nil)))) .nil))))))
def sC : List D := [(.tup [(.str "to"), (.str "a"), .non]), (.tup [(.str "to"), (.str "to"), (.str "a")]), (.tup [(.str "of"), (.tup [(.str "of"), (.str "x"), (.str "x")]), (.str "x")]), (.lst [(.str "of"), (.str "x"), (.lst [(.str "to"), (.str "x"), (.str "x")])]), (.tup [(.str "in"), (.str "x"), (.str "y")]), (.tup [(.str "OF"), (.str "x"), (.str "x")])]
def eD : Es := (.cons (.tup (.cons (.tup (.cons (.c (.str "of")) .nil)) (.cons (.c (.str "x")) (.cons (.c (.str "x")) .nil)))) (.cons (.lst (.cons (.c (.str "to")) (.cons (.lst (.cons (.c (.str "a")) .nil)) (.cons (.c (.str "b")) .nil)))) (.cons (.lst (.cons (.c (.str "to")) (.cons (.c (.str "a")) (.cons (.tup (.cons (.c (.str "b")) .nil)) .nil)))) (.cons (.dct [("of", "x")]) (.cons (.tup (.cons (.c (.str "of")) (.cons (.c (.str "x")) (.cons (.c (.str "of")) .nil)))) (.cons (.tup (.cons (.c (.int 0)) (.cons (.c (.str "x")) (.cons (.c (.str "x")) .nil)))) (.cons (.tup (.cons (.c (.str "")) (.cons (.c (.str "x")) (.cons (.c (.str "x")) .nil)))) (.cons (.c (.str "abc")) (.cons (.c (.str "tot")) .nil)))))))))
def sD : List D := [(.tup [(.tup [(.str "of")]), (.str "x"), (.str "x")]), (.lst [(.str "to"), (.lst [(.str "a")]), (.str "b")]), (.lst [(.str "to"), (.str "a"), (.tup [(.str "b")])]), .dct, (.tup [(.str "of"), (.str "x"), (.str "of")]), (.tup [(.int 0), (.str "x"), (.str "x")]), (.tup [(.str ""), (.str "x"), (.str "x")]), (.str "abc"), (.str "tot")]
def eG : Es := (.cons (.lst (.cons (.lst (.cons (.c (.str "of")) .nil)) (.cons (.c (.str "x")) (.cons (.c (.str "x")) .nil)))) (.cons (.tup (.cons (.dct []) (.cons (.c (.str "x")) (.cons (.c (.str "x")) .nil)))) (.cons (.lst (.cons (.c (.str "of")) (.cons (.dct []) (.cons (.c (.str "x")) .nil)))) (.cons (.tup (.cons (.c (.str "to")) (.cons (.dct []) (.cons (.c (.str "x")) .nil)))) (.cons (.tup (.cons (.lst .nil) (.cons (.c (.str "x")) (.cons (.c (.str "x")) .nil)))) (.cons (.tup (.cons (.c (.str "of")) (.cons (.c (.str "x")) (.cons (.dct []) .nil)))) (.cons (.tup (.cons (.lst (.cons (.c (.str "to")) .nil)) (.cons (.c (.str "a")) (.cons (.c (.str "b")) .nil)))) .nil)))))))
def sG : List D := [(.lst [(.lst [(.str "of")]), (.str "x"), (.str "x")]), (.tup [.dct, (.str "x"), (.str "x")]), (.lst [(.str "of"), .dct, (.str "x")]), (.tup [(.str "to"), .dct, (.str "x")]), (.tup [(.lst []), (.str "x"), (.str "x")]), (.tup [(.str "of"), (.str "x"), .dct]), (.tup [(.lst [(.str "to")]), (.str "a"), (.str "b")])]
theorem evA {F : CF} {ρ : Iv.Env} : evs F eA ρ S = some (sA, S) := rfl
theorem evB {F : CF} {ρ : Iv.Env} : evs F eB ρ S = some (sB, S) := rfl
theorem evC {F : CF} {ρ : Iv.Env} : evs F eC ρ S = some (sC, S) := rfl
theorem evD {F : CF} {ρ : Iv.Env} : evs F eD ρ S = some (sD, S) := rfl
theorem evG {F : CF} {ρ : Iv.Env} : evs F eG ρ S = some (sG, S) := rfl
def strange : List D := sA ++ sB ++ sC ++ sD
def valOk (d : D) : Bool := vl d && D.under 0 d && decide (d.py.depth ≤ 5)
theorem strange_ok : strange.all valOk = true := by decide +kernel
theorem strangeG_ok : (strange ++ sG).all valOk = true := by decide +kernel
theorem t45 : T[45]? = some ⟨0, 1, .cons (.asg (.n 0) (.new eA)) (.cons (.ex (.meth .extend (.v 0) (.cons (.lst eB) .nil))) (.cons (.ex (.meth .extend (.v 0) (.cons (.lst eC) .nil))) (.cons (.ret (.op .Add (.v 0) (.lst eD))) .nil)))⟩ := rfl
theorem idx1 (S : Sto) (a : Option (List D)) : (S ++ [a])[S.length]? = some a := by simp
theorem set1 (S : Sto) (a b : Option (List D)) : (S ++ [a]).set S.length b = S ++ [b] := by
  rw [List.set_append_right _ _ (Nat.le_refl _)]; simp
theorem strange_run (hc : clo S) : run T w (n + 1) 45 [] S = some (.lst strange, S) := by
  refine run_rtc0 (X := [some (sA ++ sB ++ sC)]) t45 rfl hc (by decide +kernel) ?_
  show exs _ _ _ [none] S = _
  have nA : isObj sA = false := rfl
  have nB : isObj (sA ++ sB) = false := rfl
  have nC : isObj (sA ++ sB ++ sC) = false := rfl
  have mA : small sA.length = true := rfl
  have mB : small sB.length = true := rfl
  have mC : small sC.length = true := rfl
  have mD : small sD.length = true := rfl
  have mAB : small (sA.length + sB.length) = true := rfl
  have mABC : small ((sA ++ sB).length + sC.length) = true := rfl
  have mAll : small ((sA ++ sB ++ sC).length + sD.length) = true := rfl
  have s1 : ex (run T w n) w (.asg (.n 0) (.new eA)) [none] S = some (.nx [some (.ref S.length)], S ++ [some sA]) := by
    simp only [ex, ev, evA, mA, mkList, if_true, setT, List.set_cons_zero]
  have s2 : ex (run T w n) w (.ex (.meth .extend (.v 0) (.cons (.lst eB) .nil))) [some (.ref S.length)] (S ++ [some sA]) = some (.nx [some (.ref S.length)], S ++ [some (sA ++ sB)]) := by
    simp only [ex, ev, evs, evB, mB, if_true, List.getElem?_cons_zero, see, idx1, nA, Bool.false_eq_true, if_false, Option.isSome_some, meD, Bool.not_false, Bool.true_and, mAB, set1]
  have s3 : ex (run T w n) w (.ex (.meth .extend (.v 0) (.cons (.lst eC) .nil))) [some (.ref S.length)] (S ++ [some (sA ++ sB)]) = some (.nx [some (.ref S.length)], S ++ [some (sA ++ sB ++ sC)]) := by
    simp only [ex, ev, evs, evC, mC, if_true, List.getElem?_cons_zero, see, idx1, nB, Bool.false_eq_true, if_false, Option.isSome_some, meD, Bool.not_false, Bool.true_and, mABC, set1]
  have s4 : ex (run T w n) w (.ret (.op .Add (.v 0) (.lst eD))) [some (.ref S.length)] (S ++ [some (sA ++ sB ++ sC)]) = some (.rt (.lst strange), S ++ [some (sA ++ sB ++ sC)]) := by
    simp only [ex, ev, evD, mD, if_true, List.getElem?_cons_zero, see, idx1, nC, Bool.false_eq_true, if_false, opD, mAll]
    rfl
  rw [exs, s1]
  simp only []
  rw [exs, s2]
  simp only []
  rw [exs, s3]
  simp only []
  rw [exs, s4]
def loC : E := (.cmp .NotEq (.bi .repr (.cons (.call 12 (.cons (.v 7) .nil)) .nil)) (.bi .repr (.cons (.call 43 (.cons (.v 7) .nil)) .nil)))
def loB : Ss := (.cons (.asg (.t [5, 6]) (.call 37 (.cons (.v 0) (.cons (.v 2) .nil)))) (.cons (.asg (.n 7) (.call 44 (.cons (.v 1) (.cons (.v 5) (.cons (.call 37 (.cons (.v 0) (.cons (.v 3) .nil))) .nil))))) (.cons (.ifs loC (.cons (.ret (.c (.bl false))) .nil) .nil) .nil)))
theorem t47 : T[47]? = some ⟨2, 8, (.cons (.par [2, 3] (.cons (.call 40 (.cons (.v 1) .nil)) (.cons (.call 45 .nil) .nil))) (.cons (.for (.n 4) (.rng (.c (.int 0)) (.c (.int 6))) loB) (.cons (.asg (.n 3) (.op .Add (.v 3) (.lst eG))) (.cons (.ret (.cmp .Eq (.compI false (.n 7) (.v 3) loC (.v 7)) (.lst .nil))) .nil))))⟩ := rfl
theorem same_look {b : Bool} : cmpD .NotEq (.str ((D.bl b).py.shown)) (.str ((D.bl b).py.shown)) = some false := by
  show some (!decide _) = _
  rw [decide_eq_true rfl]; rfl
theorem loC_ok {v : D} {ρ : Iv.Env} (h7 : ρ[7]? = some (some v)) (hv : vl v = true) (hd : v.py.depth + 2 ≤ n) : ev (run T w n) loC ρ S = some (.bl false, S) := by
  obtain ⟨b, e⟩ := both_ok (w := w) v.py.depth v hv (Nat.le_refl _)
  have e1 := (e n S hd).1
  have e2 := (e n S hd).2
  have r : biD .repr [.bl b] = some (.str ((D.bl b).py.shown)) := rfl
  simp only [loC, ev, evs, h7, e1, e2, seeAll, see_bl, see_str, r, same_look]
theorem clo_sh {cs : List Int} {R : Sto} {t h : Int} (hR : closedS (R.length + 1) R = true) : clo (some (shelf cs t h) :: R) := by
  show (D.unders (R.length + 1) (shelf cs t h) && closedS (R.length + 1) R) = true
  rw [hR, Bool.and_true]
  exact pures_unders _ (by show D.pures (shelf cs t h) = true; simp [shelf, D.pures, D.pure, pures_ints])
theorem strange_in {v : D} (h : v ∈ strange) : vl v = true ∧ D.under 0 v = true ∧ v.py.depth ≤ 5 := by
  have := List.all_eq_true.mp strange_ok v h
  unfold valOk at this
  rw [Bool.and_eq_true, Bool.and_eq_true, decide_eq_true_eq] at this
  exact ⟨this.1.1, this.1.2, this.2⟩
theorem lo_loop {W : Wr} {cs : List Int} {R : Sto} (hW : Good W) (hd : W.dp ≤ 100) (hs : W.size ≤ 5000) (hn : W.dp + 20 ≤ n + 2) (hc : closedS (R.length + 1) R = true) : ∀ (ds : List D) (t h : Int) (v4 v5 v6 v7 : Option D), 0 ≤ t → t + 2 * ds.length ≤ 1000000 → 0 ≤ h →
    ∃ (t' h' : Int) (v4' v5' v6' v7' : Option D), t ≤ t' ∧ t' ≤ t + 2 * ds.length ∧ 0 ≤ h' ∧ forRun (.n 4) (fun ρ S => exs (run T w (n + 2)) w loB ρ S) ds [some (.ref 0), some W.enc, some (.lst ((W.wk []).map it7)), some (.lst strange), v4, v5, v6, v7] (some (shelf cs t h) :: R) =
      some (.nx [some (.ref 0), some W.enc, some (.lst ((W.wk []).map it7)), some (.lst strange), v4', v5', v6', v7'], some (shelf cs t' h') :: R)
  | [], t, h, v4, v5, v6, v7, t0, t1, h0 => ⟨t, h, v4, v5, v6, v7, Int.le_refl _, by simp, h0, rfl⟩
  | d :: ds, t, h, v4, v5, v6, v7, t0, t1, h0 => by
    rw [List.length_cons] at t1
    have hne : (W.wk []).map it7 ≠ [] := by cases W <;> simp [Wr.wk]
    have hlen := wk_len W []
    obtain ⟨j, x, ta, ha, q1, q2, q3, q4, q5⟩ := one_ok (w := w) (n := n) (dr cs) t37 hne (by rw [List.length_map, hlen]; omega) (R := R) t0 (by omega) h0
    obtain ⟨k, y, tb, hb, p1, p2, p3, p4, p5⟩ := one_ok (w := w) (n := n) (dr cs) t37 (xs := strange) (by intro h; cases h) (by decide +kernel) (R := R) (t := ta) (h := ha) (by omega) (by omega) q4
    obtain ⟨u, hu, rfl⟩ := List.mem_map.mp (List.mem_of_getElem? q1)
    obtain ⟨r, hr1, hr2⟩ := wk_at W [] u hu
    obtain ⟨y1, y2, y3⟩ := strange_in (List.mem_of_getElem? p1)
    rw [List.nil_append] at hr1
    have be := bent_ok (w := w) (o := y) y2 (by omega) r W u.2 (n + 2) (some (shelf cs tb hb) :: R) hr2 (by omega) (by omega) (clo_sh hc)
    rw [← hr1] at be
    have bv := bent_vl y1 u.1 W hW
    have bd := bent_dp y u.1 W
    have ec := loC_ok (w := w) (n := n + 2) (S := some (shelf cs tb hb) :: R) (ρ := [some (.ref 0), some W.enc, some (.lst ((W.wk []).map it7)), some (.lst strange), some d, some (wyT u.1), some u.2.enc, some (bentV u.1 W y)]) rfl bv (by omega)
    obtain ⟨t', h', w4, w5, w6, w7, r1, r2, r3, e⟩ := lo_loop hW hd hs hn hc ds tb hb (some d) (some (wyT u.1)) (some u.2.enc) (some (bentV u.1 W y)) (by omega) (by omega) p4
    refine ⟨t', h', w4, w5, w6, w7, by omega, by rw [List.length_cons]; omega, r3, ?_⟩
    have hset : setT (.t [5, 6]) (it7 u) [some (.ref 0), some W.enc, some (.lst ((W.wk []).map it7)), some (.lst strange), some d, v5, v6, v7] = some [some (.ref 0), some W.enc, some (.lst ((W.wk []).map it7)), some (.lst strange), some d, some (wyT u.1), some u.2.enc, v7] := rfl
    have s1 : ex (run T w (n + 2)) w (.asg (.t [5, 6]) (.call 37 (.cons (.v 0) (.cons (.v 2) .nil)))) [some (.ref 0), some W.enc, some (.lst ((W.wk []).map it7)), some (.lst strange), some d, v5, v6, v7] (some (shelf cs t h) :: R) = some (.nx [some (.ref 0), some W.enc, some (.lst ((W.wk []).map it7)), some (.lst strange), some d, some (wyT u.1), some u.2.enc, v7], some (shelf cs ta ha) :: R) := by
      simp only [ex, ev, evs, List.getElem?_cons_zero, List.getElem?_cons_succ, q5, hset]
    have s2 : ex (run T w (n + 2)) w (.asg (.n 7) (.call 44 (.cons (.v 1) (.cons (.v 5) (.cons (.call 37 (.cons (.v 0) (.cons (.v 3) .nil))) .nil))))) [some (.ref 0), some W.enc, some (.lst ((W.wk []).map it7)), some (.lst strange), some d, some (wyT u.1), some u.2.enc, v7] (some (shelf cs ta ha) :: R) = some (.nx [some (.ref 0), some W.enc, some (.lst ((W.wk []).map it7)), some (.lst strange), some d, some (wyT u.1), some u.2.enc, some (bentV u.1 W y)], some (shelf cs tb hb) :: R) := by
      simp only [ex, ev, evs, List.getElem?_cons_zero, List.getElem?_cons_succ, p5, be, setT, List.set_cons_succ, List.set_cons_zero]
    have body : exs (run T w (n + 2)) w loB [some (.ref 0), some W.enc, some (.lst ((W.wk []).map it7)), some (.lst strange), some d, v5, v6, v7] (some (shelf cs t h) :: R) = some (.nx [some (.ref 0), some W.enc, some (.lst ((W.wk []).map it7)), some (.lst strange), some d, some (wyT u.1), some u.2.enc, some (bentV u.1 W y)], some (shelf cs tb hb) :: R) := by
      rw [loB, exs, s1]
      simp only []
      rw [exs, s2]
      simp only []
      rw [exs, ex, ec]
      simp only [exs]
    rw [forRun]
    simp only [setT, List.set_cons_succ, List.set_cons_zero]
    rw [body]
    exact e
theorem looked_ok {W : Wr} {cs : List Int} {R : Sto} (hW : Good W) (hd : W.dp ≤ 100) (hs : W.size ≤ 5000) (hw : 10000 ≤ w) (hn : W.dp + 20 ≤ n) (hc : closedS (R.length + 1) R = true) {t h : Int} (t0 : 0 ≤ t) (t1 : t + 12 ≤ 1000000) (h0 : 0 ≤ h) :
    ∃ t' h' : Int, t ≤ t' ∧ t' ≤ t + 12 ∧ 0 ≤ h' ∧ run T w (n + 1) 47 [.ref 0, W.enc] (some (shelf cs t h) :: R) = some (.bl true, some (shelf cs t' h') :: R) := by
  obtain ⟨n, rfl⟩ : ∃ m, n = m + 2 := ⟨n - 2, by omega⟩
  have hcl : ∀ t h, clo (some (shelf cs t h) :: R) := fun t h => clo_sh hc
  have e1 := walked_ok (w := w) (n := n + 1) hW (by omega) hs hw (some (shelf cs t h) :: R) (hcl t h)
  have e2 := strange_run (w := w) (n := n + 1) (hcl t h)
  obtain ⟨t', h', v4, v5, v6, v7, q1, q2, q3, e3⟩ := lo_loop (w := w) (n := n) (cs := cs) (R := R) hW hd hs hn hc ((List.range 6).map fun (k : Nat) => D.int (0 + k)) t h none none none none t0 (by simpa using t1) h0
  refine ⟨t', h', q1, by simpa using q2, q3, run_rts t47 rfl rfl ?_⟩
  show exs _ _ _ [some (.ref 0), some W.enc, none, none, none, none, none, none] _ = _
  have s1 : ex (run T w (n + 2)) w (.par [2, 3] (.cons (.call 40 (.cons (.v 1) .nil)) (.cons (.call 45 .nil) .nil))) [some (.ref 0), some W.enc, none, none, none, none, none, none] (some (shelf cs t h) :: R) = some (.nx [some (.ref 0), some W.enc, some (.lst ((W.wk []).map it7)), some (.lst strange), none, none, none, none], some (shelf cs t h) :: R) := by
    have z : ∀ a b : D, [a, b].length = [2, 3].length := fun _ _ => rfl
    simp only [ex, ev, evs, List.getElem?_cons_zero, List.getElem?_cons_succ, e1, e2, z, if_true, List.zip_cons_cons, List.zip_nil_right, List.foldl_cons, List.foldl_nil, List.set_cons_succ, List.set_cons_zero]
  have er : ∀ ρ S, ev (run T w (n + 2)) (.rng (.c (.int 0)) (.c (.int 6))) ρ S = some (.lst ((List.range 6).map fun (k : Nat) => D.int (0 + k)), S) := fun ρ S => rfl
  have s2 : ex (run T w (n + 2)) w (.for (.n 4) (.rng (.c (.int 0)) (.c (.int 6))) loB) [some (.ref 0), some W.enc, some (.lst ((W.wk []).map it7)), some (.lst strange), none, none, none, none] (some (shelf cs t h) :: R) = some (.nx [some (.ref 0), some W.enc, some (.lst ((W.wk []).map it7)), some (.lst strange), v4, v5, v6, v7], some (shelf cs t' h') :: R) := by
    rw [ex, er]
    simp only [items]
    exact e3
  have mG : small sG.length = true := rfl
  have mSG : small (strange.length + sG.length) = true := by decide +kernel
  have s3 : ex (run T w (n + 2)) w (.asg (.n 3) (.op .Add (.v 3) (.lst eG))) [some (.ref 0), some W.enc, some (.lst ((W.wk []).map it7)), some (.lst strange), v4, v5, v6, v7] (some (shelf cs t' h') :: R) = some (.nx [some (.ref 0), some W.enc, some (.lst ((W.wk []).map it7)), some (.lst (strange ++ sG)), v4, v5, v6, v7], some (shelf cs t' h') :: R) := by
    simp only [ex, ev, evG, mG, if_true, List.getElem?_cons_zero, List.getElem?_cons_succ, see_lst, opD, mSG, setT, List.set_cons_succ, List.set_cons_zero]
  have ef := ev_filter (F := run T w (n + 2)) (i := 7) (it := .v 3) (cond := loC) (ρ := [some (.ref 0), some W.enc, some (.lst ((W.wk []).map it7)), some (.lst (strange ++ sG)), v4, v5, v6, v7]) (S := some (shelf cs t' h') :: R) (S1 := some (shelf cs t' h') :: R) (x := .lst (strange ++ sG)) (xs := strange ++ sG) (p := fun _ => false) rfl rfl (by simp) (fun d hd => by
    have := List.all_eq_true.mp strangeG_ok d hd
    unfold valOk at this
    rw [Bool.and_eq_true, Bool.and_eq_true, decide_eq_true_eq] at this
    exact loC_ok rfl this.1.1 (by have := this.2; omega)) (by rw [show (strange ++ sG).length = 49 from rfl]; decide)
  have ef2 : (strange ++ sG).filter (fun _ => false) = [] := List.filter_eq_nil_iff.mpr fun _ _ => by simp
  rw [ef2] at ef
  have s4 : ex (run T w (n + 2)) w (.ret (.cmp .Eq (.compI false (.n 7) (.v 3) loC (.v 7)) (.lst .nil))) [some (.ref 0), some W.enc, some (.lst ((W.wk []).map it7)), some (.lst (strange ++ sG)), v4, v5, v6, v7] (some (shelf cs t' h') :: R) = some (.rt (.bl true), some (shelf cs t' h') :: R) := by
    have z : cmpD .Eq (.lst []) (.lst []) = some true := by decide +kernel
    rw [ex, ev, ef]
    simp only [ev, evs, zs0, if_true, see_lst, z]
  rw [exs, s1]
  simp only []
  rw [exs, s2]
  simp only []
  rw [exs, s3]
  simp only []
  rw [exs, s4]
end Lk03

set_option Elab.async false
set_option linter.all false
set_option maxRecDepth 100000
set_option maxHeartbeats 4000000
namespace Lk03
open PySem Iv
variable {w n : Nat}
theorem alike_enc : ∀ W : Wr, PySem.W.alike W.enc.py W.enc.py = true
  | .nm x => by simp [Wr.enc, D.py, PySem.W.alike]
  | .of x b => by simp [Wr.enc, D.py, D.pys, PySem.W.alike, PySem.W.alikeAll, alike_enc b]
  | .to a b => by simp [Wr.enc, D.py, D.pys, PySem.W.alike, PySem.W.alikeAll, alike_enc a, alike_enc b]
theorem ok_enc {W : Wr} (h : Good W) (hd : W.dp ≤ 185) : D.ok W.enc = true := by
  obtain ⟨j1, j2⟩ := enc_lay W h
  simp only [D.ok, W.pure_enc, j1, Bool.and_self, Bool.true_and]
  exact decide_eq_true (by omega)
theorem eq_enc {W : Wr} (h : Good W) (hd : W.dp ≤ 185) : cmpD .Eq W.enc W.enc = some true := by
  have e : D.eqv W.enc W.enc = true := PySem.W.eqv_refl_alike _ (alike_enc W)
  cases W with
  | nm x => exact congrArg some (decide_eq_true rfl)
  | of x b =>
    show (if _ then _ else _) = _
    rw [if_pos (by rw [ok_enc h hd]; rfl)]
    exact congrArg some e
  | to a b =>
    show (if _ then _ else _) = _
    rw [if_pos (by rw [ok_enc h hd]; rfl)]
    exact congrArg some e
theorem ne_enc {W : Wr} (h : Good W) (hd : W.dp ≤ 185) : cmpD .NotEq W.enc W.enc = some false := by
  have e : D.eqv W.enc W.enc = true := PySem.W.eqv_refl_alike _ (alike_enc W)
  cases W with
  | nm x => exact congrArg (fun b => some (!b)) (decide_eq_true rfl)
  | of x b =>
    show (if _ then _ else _) = _
    rw [if_pos (by rw [ok_enc h hd]; rfl)]
    exact congrArg (fun b => some (!b)) e
  | to a b =>
    show (if _ then _ else _) = _
    rw [if_pos (by rw [ok_enc h hd]; rfl)]
    exact congrArg (fun b => some (!b)) e
theorem show_enc : ∀ W : Wr, W.enc.py.showable = true
  | .nm x => by simp [Wr.enc, D.py, PyData.showable]
  | .of x b => by simp [Wr.enc, D.py, D.pys, PyData.showable, PyData.showableAll, show_enc b]
  | .to a b => by simp [Wr.enc, D.py, D.pys, PyData.showable, PyData.showableAll, show_enc a, show_enc b]
theorem name_len {x : Str} (h : nmOk x = true) : (PyData.str x).shown.length ≤ 122 := by
  have h1 := nm_signs h
  have h2 := StrLaws.reprText_len x fun c hc => by have := h1.2 c hc; omega
  simp only [PyData.shown]
  omega
theorem tup3_len (a b c : Str) : (tupleText [a, b, c]).length ≤ a.length + b.length + c.length + 9 := by
  have h3 : ∀ b : Bool, ((if b then ",)" else ")" : String) : Str).length ≤ 2 := by decide
  unfold tupleText
  rw [strLen_append, strLen_append]
  have e1 : ((("(" : String) : Str)).length = 1 := rfl
  have e2 := h3 (([a, b, c] : List Str).length == 1)
  have hj := join_length_add [a, b, c] (by simp)
  simp only [piled_cons] at hj
  have e3 : piled ([] : List Str) = 0 := rfl
  omega
theorem shown_enc : ∀ W : Wr, Good W → W.enc.py.shown.length ≤ 300 * W.size
  | .nm x, h => by
    have := name_len (h x List.mem_cons_self)
    simp only [Wr.enc, D.py, Wr.size]; omega
  | .of x b, h => by
    have h1 := name_len (h x List.mem_cons_self)
    have h2 := shown_enc b fun y hy => h y (List.mem_cons_of_mem _ hy)
    have h3 : (PyData.str "of").shown.length = 4 := by decide +kernel
    have h4 := tup3_len (PyData.str "of").shown (PyData.str x).shown b.enc.py.shown
    have e : (Wr.of x b).enc.py.shown = tupleText [(PyData.str "of").shown, (PyData.str x).shown, b.enc.py.shown] := by simp only [Wr.enc, D.py, D.pys, PyData.shown, PyData.shownAll]
    rw [e]
    simp only [Wr.size]; omega
  | .to a b, h => by
    have h1 := shown_enc a fun y hy => h y (List.mem_append_left _ hy)
    have h2 := shown_enc b fun y hy => h y (List.mem_append_right _ hy)
    have h3 : (PyData.str "to").shown.length = 4 := by decide +kernel
    have h4 := tup3_len (PyData.str "to").shown a.enc.py.shown b.enc.py.shown
    have e : (Wr.to a b).enc.py.shown = tupleText [(PyData.str "to").shown, a.enc.py.shown, b.enc.py.shown] := by simp only [Wr.enc, D.py, D.pys, PyData.shown, PyData.shownAll]
    rw [e]
    simp only [Wr.size]; omega
theorem repr_enc {W : Wr} (h : Good W) (hd : W.dp ≤ 60) (hs : W.size ≤ 300) : biD .repr [W.enc] = some (.str W.enc.py.shown) := by
  have h1 := shown_enc W h
  obtain ⟨j1, j2⟩ := enc_lay W h
  have e : D.shows W.enc = true := by
    simp only [D.shows, W.pure_enc, j1, show_enc, Bool.and_self, Bool.true_and, Bool.and_eq_true, decide_eq_true_eq]
    omega
  cases W with
  | nm x =>
    have z : small ((D.str x).py.shown.length) = true := decide_eq_true (Nat.le_trans h1 (by omega))
    show (if small ((D.str x).py.shown.length) = true then some (D.str (D.str x).py.shown) else none) = some (.str (D.str x).py.shown)
    rw [if_pos z]
  | of x b =>
    show (if (Wr.of x b).enc.shows = true then some (D.str (Wr.of x b).enc.py.shown) else none) = _
    rw [if_pos e]
  | to a b =>
    show (if (Wr.to a b).enc.shows = true then some (D.str (Wr.to a b).enc.py.shown) else none) = _
    rw [if_pos e]
theorem py_wy (p : List Bool) : (wyT p).py = .tuple ((p.map bit).map PyData.int) := by
  simp only [wyT, D.py, map_stp, pys_ints]
theorem lt_row : ∀ p q : List Bool, PyProof.Rows.lexLt PyProof.Rows.itemOrd (PySem.W.keyToksAll ((p.map bit).map PyData.int)) (PySem.W.keyToksAll ((q.map bit).map PyData.int)) = ltB p q
  | [], [] => by simp only [List.map_nil]; exact PyProof.Rows.lex_irrefl _
  | [], c :: q => by
    simp only [List.map_nil, List.map_cons, PySem.W.keyToksAll]
    rw [PySem.W.lex_atom (by simp)]
    rfl
  | c :: p, [] => by
    simp only [List.map_nil, List.map_cons, PySem.W.keyToksAll]
    rw [PySem.W.lex_atom (by simp)]
    rfl
  | c :: p, d :: q => by
    have ih := lt_row p q
    simp only [List.map_cons]
    rw [PySem.W.dataLt_cons (by simp [PySem.W.alike]), ih, PySem.W.dataLt_int]
    cases c <;> cases d <;> simp [bit, ltB, PyData.eqv]
theorem lt_wy (p q : List Bool) : PySem.W.dataLt (wyT p).py (wyT q).py = ltB p q := by
  rw [py_wy, py_wy, PySem.W.dataLt_tuple]
  exact lt_row p q
theorem wys_ok : ∀ l : List (List Bool), D.pures (l.map wyT) = true ∧ PyData.canLayAll0 (D.pys (l.map wyT)) = true ∧ PyData.depthAll (D.pys (l.map wyT)) ≤ 1
  | [] => ⟨rfl, rfl, Nat.zero_le _⟩
  | p :: l => by
    obtain ⟨i1, i2, i3⟩ := wys_ok l
    refine ⟨by simp only [List.map_cons, D.pures, pure_wy, i1, Bool.and_self], by simp only [List.map_cons, D.pys, py_wy, PyData.canLayAll0, PyData.canLay0, lay_ints, i2, Bool.and_self], ?_⟩
    simp only [List.map_cons, D.pys, py_wy, PyData.depthAll, PyData.depth, depth_ints]
    omega
theorem alike_wy (p q : List Bool) : PySem.W.alike (wyT p).py (wyT q).py = true := by
  rw [py_wy, py_wy, PySem.W.alike]
  exact PySem.W.alike_ints _ _
theorem alikeAll_wys : ∀ l : List (List Bool), PySem.W.alikeAll (D.pys (l.map wyT)) (D.pys (l.map wyT)) = true
  | [] => by simp [D.pys, PySem.W.alikeAll]
  | p :: l => by simp only [List.map_cons, D.pys, PySem.W.alikeAll, alike_wy, alikeAll_wys l, Bool.and_self]
theorem eq_wys (l : List (List Bool)) : cmpD .Eq (.lst (l.map wyT)) (.lst (l.map wyT)) = some true := by
  obtain ⟨i1, i2, i3⟩ := wys_ok l
  have e : D.ok (.lst (l.map wyT)) = true := by
    simp only [D.ok, D.pure, D.py, PyData.canLay0, PyData.depth, i1, i2, Bool.and_self, Bool.true_and]
    exact decide_eq_true (by omega)
  show (if _ then _ else _) = _
  rw [if_pos (by rw [e]; rfl)]
  refine congrArg some (PySem.W.eqv_refl_alike _ ?_)
  simp only [D.py, PySem.W.alike]
  exact alikeAll_wys l
theorem sort_wys {l m : List (List Bool)} (hp : ([] :: l).Perm m) (ha : m.Pairwise fun p q => ltB p q = true) (hl : l.length ≤ 50000) : biD .sorted [.lst (([] :: l).map wyT)] = some (.lst (m.map wyT)) := by
  obtain ⟨i1, i2, i3⟩ := wys_ok ([] :: l)
  have e : sortOk (([] :: l).map wyT) = true := by
    have a1 : small ((([] :: l).map wyT).length) = true := decide_eq_true (by rw [List.length_map, List.length_cons]; omega)
    have a2 : allAlike (([] :: l).map wyT) = true := by
      refine List.all_eq_true.mpr fun a ha => List.all_eq_true.mpr fun b hb => ?_
      obtain ⟨p, _, rfl⟩ := List.mem_map.mp ha
      obtain ⟨q, _, rfl⟩ := List.mem_map.mp hb
      exact alike_wy p q
    have a3 : ((([] :: l).map wyT).all fun a => decide (a.py.depth ≤ 100)) = true := by
      refine List.all_eq_true.mpr fun a ha => ?_
      obtain ⟨p, _, rfl⟩ := List.mem_map.mp ha
      rw [py_wy]
      simp only [PyData.depth, depth_ints]
      rfl
    have a4 : (([] :: l).map wyT).all D.isTup = true := by
      refine List.all_eq_true.mpr fun a ha => ?_
      obtain ⟨p, _, rfl⟩ := List.mem_map.mp ha
      rfl
    unfold sortOk
    rw [a1, i1, a2, a3, a4]
    rfl
  show (if _ then _ else _) = _
  rw [if_pos e]
  refine congrArg (fun x => some (D.lst x)) ?_
  unfold sortD
  have tot := fun (a b : List Bool) => ltB_total a b
  refine List.Perm.eq_of_pairwise (le := fun a b => (!PySem.W.dataLt b.py a.py) = true) (fun a b ha hb h1 h2 => ?_) ?_ ?_ ?_
  · obtain ⟨p, _, rfl⟩ := List.mem_map.mp ((List.mergeSort_perm _ _).mem_iff.mp ha)
    obtain ⟨q, _, rfl⟩ := List.mem_map.mp hb
    rw [lt_wy, Bool.not_eq_true'] at h1 h2
    rw [ltB_total p q h2 h1]
  · have T := PySem.W.sortLe_total (PyProof.Rows.listOrd PyProof.Rows.itemOrd) false fun b : D => PySem.W.keyToks b.py
    exact List.pairwise_mergeSort (le := fun a b : D => !PySem.W.dataLt b.py a.py) (fun a b c h1 h2 => T.trans a b c h1 h2) (fun a b => (Bool.or_eq_true _ _).mpr (T.total a b)) _
  · rw [List.pairwise_map]
    refine ha.imp fun {p q} h => ?_
    rw [lt_wy, ltB_asym p q h]
    rfl
  · exact (List.mergeSort_perm _ _).trans (hp.map wyT)
end Lk03
namespace Lk03
open PySem Iv
variable {w n : Nat} {S : Sto}
theorem see_enc (W : Wr) (S : Sto) : see S W.enc = some W.enc := by cases W <;> rfl
theorem ne_same (a : Str) : cmpD .NotEq (.str a) (.str a) = some false := congrArg (fun b => some (!b)) (decide_eq_true rfl)
theorem eq_same (a : Str) : cmpD .Eq (.str a) (.str a) = some true := congrArg (fun b => some b) (decide_eq_true rfl)
theorem okL_wys (l : List (List Bool)) : D.ok (.lst (l.map wyT)) = true := by
  obtain ⟨i1, i2, i3⟩ := wys_ok l
  simp only [D.ok, D.pure, D.py, PyData.canLay0, PyData.depth, i1, i2, Bool.and_self, Bool.true_and]
  exact decide_eq_true (by omega)
theorem ne_wys (l : List (List Bool)) : cmpD .NotEq (.lst (l.map wyT)) (.lst (l.map wyT)) = some false := by
  show (if _ then _ else _) = _
  rw [if_pos (by rw [okL_wys]; rfl)]
  refine congrArg (fun b => some (!b)) (PySem.W.eqv_refl_alike _ ?_)
  simp only [D.py, PySem.W.alike]
  exact alikeAll_wys l
theorem tuple_len (l : List Str) : (tupleText l).length ≤ piled l + 3 := by
  have h3 : ∀ b : Bool, ((if b then ",)" else ")" : String) : Str).length ≤ 2 := by decide
  unfold tupleText
  rw [strLen_append, strLen_append]
  have e1 : ((("(" : String) : Str)).length = 1 := rfl
  have e2 := h3 (l.length == 1)
  cases l with
  | nil =>
    have : (Str.join ", " ([] : List Str)).length = 0 := rfl
    omega
  | cons a b =>
    have hj := join_length_add (a :: b) (by simp)
    omega
theorem piled_bits : ∀ p : List Bool, piled (PyData.shownAll ((p.map bit).map PyData.int)) ≤ 3 * p.length
  | [] => Nat.le_refl _
  | c :: p => by
    have ih := piled_bits p
    have h : (PyData.int (bit c)).shown.length = 1 := by cases c <;> decide +kernel
    simp only [List.map_cons, PyData.shownAll, piled_cons, List.length_cons]
    omega
theorem shown_wy (p : List Bool) : (wyT p).py.shown.length ≤ 3 * p.length + 3 := by
  rw [py_wy]
  have h := tuple_len (PyData.shownAll ((p.map bit).map PyData.int))
  have h2 := piled_bits p
  simp only [PyData.shown]
  omega
theorem piled_wys {k : Nat} : ∀ l : List (List Bool), (∀ p ∈ l, p.length ≤ k) → piled (PyData.shownAll (D.pys (l.map wyT))) ≤ (3 * k + 5) * l.length
  | [], _ => Nat.le_refl _
  | p :: l, h => by
    have ih := piled_wys l fun q hq => h q (List.mem_cons_of_mem _ hq)
    have h1 := shown_wy p
    have h2 := h p List.mem_cons_self
    simp only [List.map_cons, D.pys, PyData.shownAll, piled_cons, List.length_cons, Nat.mul_succ]
    omega
theorem showable_wys : ∀ l : List (List Bool), PyData.showableAll (D.pys (l.map wyT)) = true
  | [] => rfl
  | p :: l => by
    have h : ∀ q : List Bool, PyData.showableAll ((q.map bit).map PyData.int) = true := fun q => by
      induction q with
      | nil => rfl
      | cons a q ih =>
        have h1 : (PyData.int (bit a)).showable = true := by cases a <;> decide +kernel
        simp only [List.map_cons, PyData.showableAll, h1, ih, Bool.and_self]
    simp only [List.map_cons, D.pys, py_wy, PyData.showableAll, PyData.showable, h, showable_wys l, Bool.and_self]
theorem repr_wys {l : List (List Bool)} (h : ∀ p ∈ l, p.length ≤ 60) (hl : l.length ≤ 400) : biD .repr [.tup (l.map wyT)] = some (.str (D.tup (l.map wyT)).py.shown) := by
  obtain ⟨i1, i2, i3⟩ := wys_ok l
  have h1 := piled_wys l h
  have h2 := tuple_len (PyData.shownAll (D.pys (l.map wyT)))
  have h3 : (3 * 60 + 5) * l.length ≤ (3 * 60 + 5) * 400 := Nat.mul_le_mul_left _ hl
  have e : D.shows (.tup (l.map wyT)) = true := by
    simp only [D.shows, D.pure, D.py, PyData.canLay0, PyData.showable, PyData.depth, PyData.shown, i1, i2, showable_wys, Bool.and_self, Bool.true_and, Bool.and_eq_true, decide_eq_true_eq]
    omega
  show (if _ then _ else _) = _
  rw [if_pos e]
theorem fold_max : ∀ (l : List Nat) (a m : Nat), a ≤ m → (∀ x ∈ l, x ≤ m) → (a = m ∨ m ∈ l) → (l.map fun x : Nat => (x : Int)).foldl (fun a b => if b > a then b else a) (a : Int) = (m : Int)
  | [], a, m, h1, h2, h3 => by
    rcases h3 with h3 | h3
    · rw [h3]; rfl
    · cases h3
  | x :: l, a, m, h1, h2, h3 => by
    have hx := h2 x List.mem_cons_self
    have e : (if (x : Int) > (a : Int) then (x : Int) else (a : Int)) = ((max a x : Nat) : Int) := by
      split <;> omega
    rw [List.map_cons, List.foldl_cons, e]
    refine fold_max l (max a x) m (by omega) (fun y hy => h2 y (List.mem_cons_of_mem _ hy)) ?_
    rcases h3 with h3 | h3
    · exact .inl (by omega)
    · rcases List.mem_cons.mp h3 with h3 | h3
      · exact .inl (by omega)
      · exact .inr h3
theorem pre_dp : ∀ W : Wr, ∃ p ∈ W.pre, p.length = W.dp
  | .nm x => ⟨[], List.mem_singleton.mpr rfl, rfl⟩
  | .of x b => by
    obtain ⟨p, hp, e⟩ := pre_dp b
    exact ⟨false :: p, List.mem_cons_of_mem _ (List.mem_map.mpr ⟨p, hp, rfl⟩), by simp only [List.length_cons, Wr.dp, e]⟩
  | .to a b => by
    obtain ⟨p, hp, e⟩ := pre_dp a
    obtain ⟨q, hq, e2⟩ := pre_dp b
    by_cases h : a.dp ≤ b.dp
    · exact ⟨true :: q, List.mem_cons_of_mem _ (List.mem_append_right _ (List.mem_map.mpr ⟨q, hq, rfl⟩)), by simp only [List.length_cons, Wr.dp, e2]; omega⟩
    · exact ⟨false :: p, List.mem_cons_of_mem _ (List.mem_append_left _ (List.mem_map.mpr ⟨p, hp, rfl⟩)), by simp only [List.length_cons, Wr.dp, e]; omega⟩
theorem ints_map (l : List (List Bool)) : ints? (l.map fun p => D.int (p.length : Int)) = some (l.map fun p => (p.length : Int)) := by
  induction l with
  | nil => rfl
  | cons p l ih => simp only [List.map_cons, ints?, ih, Option.map_some]
theorem max_ways (W : Wr) : biD .maxl [.lst (W.pre.map fun p => D.int (p.length : Int))] = some (.int W.dp) := by
  obtain ⟨p, hp, e⟩ := pre_dp W
  have hd := pre_deep W
  cases h : W.pre with
  | nil => rw [h] at hp; cases hp
  | cons q l =>
    rw [h] at hp hd
    have f := fold_max (l.map (·.length)) q.length W.dp (hd q List.mem_cons_self) (fun x hx => by
      obtain ⟨r, hr, rfl⟩ := List.mem_map.mp hx
      exact hd r (List.mem_cons_of_mem _ hr)) (by
      rcases List.mem_cons.mp hp with rfl | hp
      · exact .inl e
      · exact .inr (List.mem_map.mpr ⟨p, hp, e⟩))
    rw [List.map_map] at f
    show (match ints? ((q :: l).map fun p => D.int (p.length : Int)) with | some (n :: ns) => some (D.int (ns.foldl (fun a b => if b > a then b else a) n)) | _ => none) = _
    rw [ints_map]
    exact congrArg (fun z => some (D.int z)) f
end Lk03

set_option Elab.async false
set_option linter.all false
set_option maxRecDepth 100000
set_option maxHeartbeats 4000000
namespace Lk03
open PySem Iv
variable {w n : Nat} {S : Sto}
theorem isWrE_ok {W : Wr} {d : D} (e : Enc d W) (hW : Good W) (hn : W.dp + 2 ≤ n) (S : Sto) : run T w n 12 [d] S = some (.bl true, S) := isWr_ok t2 t12 e hW n hn
theorem isnot_t : cmpD .IsNot (.bl true) (.bl true) = some false := rfl
theorem ne_int (i : Int) : cmpD .NotEq (.int i) (.int i) = some false := congrArg (fun b => some (!b)) (decide_eq_true rfl)
theorem repr_nat {k : Nat} (h : k ≤ 100000) : biD .repr [.int (k : Int)] = some (.str ((D.int (k : Int)).py.shown)) := by
  show (if _ then _ else _) = _
  rw [if_pos (decide_eq_true (Nat.lt_of_le_of_lt (show (k : Int).natAbs ≤ 100000 by omega) (Nat.lt_of_lt_of_le (show 100000 < 2 ^ 17 by decide) (Nat.pow_le_pow_right (by decide) (by decide)))))]
def tr1 : St := (.par [2, 3, 4] (.cons (.call 40 (.cons (.v 1) .nil)) (.cons (.call 41 (.cons (.v 1) .nil)) (.cons (.call 39 (.cons (.v 1) .nil)) .nil))))
def tr2 : St := (.asg (.n 5) (.comp false (.t [9, 10]) (.v 2) (.v 9)))
def trS : E := (.bi .len (.cons (.compI false (.n 12) (.v 3) (.cmp .NotEq (.v 12) (.c (.str "of"))) (.v 12)) .nil))
def trL : E := (.op .Add (.c (.int 1)) (.bi .maxl (.cons (.comp false (.n 9) (.v 5) (.bi .len (.cons (.v 9) .nil))) .nil)))
def tr3 : St := (.par [6, 7] (.cons trS (.cons trL .nil)))
def tr4 : St := (.ifs (.or (.cmp .IsNot (.callK 12 .nil (.cons (.v 1) Es.nil) [0]) (.c (.bl true))) (.or (.cmp .IsNot (.call 12 (.cons (.v 4) .nil)) (.c (.bl true))) (.cmp .NotEq (.bi .len (.cons (.v 5) .nil)) (.v 6)))) (.cons (.ret (.c (.bl false))) .nil) .nil)
def tr5 : St := (.ifs (.or (.cmp .NotEq (.bi .repr (.cons (.callK 24 .nil (.cons (.v 4) Es.nil) [0]) .nil)) (.bi .repr (.cons (.v 6) .nil))) (.or (.cmp .NotEq (.bi .repr (.cons (.callK 25 .nil (.cons (.v 4) Es.nil) [0]) .nil)) (.bi .repr (.cons (.v 7) .nil))) (.or (.cmp .NotEq (.call 24 (.cons (.v 1) .nil)) (.v 6)) (.cmp .NotEq (.call 25 (.cons (.v 1) .nil)) (.v 7))))) (.cons (.ret (.c (.bl false))) .nil) .nil)
def tr6 : St := (.asg (.n 8) (.callK 33 .nil (.cons (.call 37 (.cons (.v 0) (.cons (.lst (.cons (.v 1) (.cons (.v 4) .nil))) .nil))) Es.nil) [0]))
def tr7 : St := (.ifs (.or (.cmp .NotEq (.bi .repr (.cons (.v 8) .nil)) (.bi .repr (.cons (.bi .tuple (.cons (.v 5) .nil)) .nil))) (.cmp .NotEq (.bi .list (.cons (.v 8) .nil)) (.bi .sorted (.cons (.v 5) .nil)))) (.cons (.ret (.c (.bl false))) .nil) .nil)
def trB : Ss := (.cons (.ifs (.or (.cmp .NotEq (.bi .repr (.cons (.call 34 (.cons (.v 1) (.cons (.v 9) .nil))) .nil)) (.bi .repr (.cons (.v 10) .nil))) (.cmp .NotEq (.bi .repr (.cons (.callK 34 .nil (.cons (.bi .list (.cons (.v 9) .nil)) (.cons (.v 4) Es.nil)) [1, 0]) .nil)) (.bi .repr (.cons (.v 10) .nil)))) (.cons (.ret (.c (.bl false))) .nil) .nil) .nil)
def tr8 : St := (.for (.t [9, 10]) (.v 2) trB)
def tr9 : St := (.asg (.n 11) (.callK 27 .nil (.cons (.v 4) Es.nil) [0]))
def tr10 : St := (.ret (.and (.cmp .Eq (.v 11) (.meth .join (.c (.str " ")) (.cons (.v 3) .nil))) (.and (.cmp .Eq (.call 27 (.cons (.v 1) .nil)) (.v 11)) (.and (.cmp .Eq (.bi .repr (.cons (.call 28 (.cons (.v 11) .nil)) .nil)) (.bi .repr (.cons (.v 1) .nil))) (.cmp .Eq (.callK 28 .nil (.cons (.v 11) Es.nil) [0]) (.v 1))))))
theorem t46 : T[46]? = some ⟨2, 13, .cons tr1 (.cons (.frzD 4) (.cons tr2 (.cons tr3 (.cons tr4 (.cons tr5 (.cons tr6 (.cons tr7 (.cons tr8 (.cons tr9 (.cons tr10 .nil))))))))))⟩ := rfl
/-- the slots, from some point on -/
def env (W : Wr) (v5 v6 v7 v8 v9 v10 v11 v12 : Option D) : Iv.Env := [some (.ref 0), some W.enc, some (.lst ((W.wk []).map it7)), some (.lst ((its W).map D.str)), some W.encL, v5, v6, v7, v8, v9, v10, v11, v12]
def wayD : D → D
  | .tup (p :: _) => p
  | d => d
theorem tr2_ok {F : CF} {W : Wr} {v9 v10 v11 v12 : Option D} (hs : W.size ≤ 5000) : ex F w tr2 (env W none none none none v9 v10 v11 v12) S = some (.nx (env W (some (.lst (W.pre.map wyT))) none none none v9 v10 v11 v12), S) := by
  have e := ev_comp (F := F) (t := .t [9, 10]) (it := .v 2) (elt := .v 9) (ρ := env W none none none none v9 v10 v11 v12) (S := S) (S1 := S) (x := .lst ((W.wk []).map it7)) (xs := (W.wk []).map it7) (g := wayD) rfl rfl (fun d hd => by
    obtain ⟨u, hu, rfl⟩ := List.mem_map.mp hd
    exact ⟨_, rfl, rfl⟩) (by rw [List.length_map, wk_len]; omega)
  have e2 : ((W.wk []).map it7).map wayD = W.pre.map wyT := by
    rw [List.map_map]
    have h := wk_ways W []
    have : W.pre.map (fun r => ([] : List Bool) ++ r) = W.pre := by simp
    rw [this] at h
    rw [← h, List.map_map]
    rfl
  rw [e2] at e
  rw [tr2, ex, e]
  rfl
theorem trS_ok {F : CF} {W : Wr} (hW : Good W) (hs : W.size ≤ 5000) {v5 v6 v7 v8 v9 v10 v11 v12 : Option D} : ev F trS (env W v5 v6 v7 v8 v9 v10 v11 v12) S = some (.int W.size, S) := by
  have hl := its_len W
  have e := ev_filter (F := F) (i := 12) (it := .v 3) (cond := .cmp .NotEq (.v 12) (.c (.str "of"))) (ρ := env W v5 v6 v7 v8 v9 v10 v11 v12) (S := S) (S1 := S) (x := .lst ((its W).map D.str)) (xs := (its W).map D.str) (p := fun d => match d with | .str x => !decide (x = ("of" : Str)) | _ => false) rfl rfl (by simp [env]) (fun d hd => by
    obtain ⟨x, hx, rfl⟩ := List.mem_map.mp hd
    rfl) (by rw [List.length_map]; omega)
  rw [trS, ev, evs, e]
  simp only [evs, seeAll, see_lst, len_lst]
  rw [List.filter_map, List.length_map]
  have := its_size W hW
  congr 3
  have h2 : ((its W).filter ((fun d : D => match d with | .str x => !decide (x = ("of" : Str)) | _ => false) ∘ D.str)) = (its W).filter fun x : Str => !decide (x = ("of" : Str)) := rfl
  rw [h2, this]
theorem trL_ok {F : CF} {W : Wr} (hs : W.size ≤ 5000) {v6 v7 v8 v9 v10 v11 v12 : Option D} : ev F trL (env W (some (.lst (W.pre.map wyT))) v6 v7 v8 v9 v10 v11 v12) S = some (.int (W.dp + 1 : Nat), S) := by
  have e := ev_comp (F := F) (t := .n 9) (it := .v 5) (elt := .bi .len (.cons (.v 9) .nil)) (ρ := env W (some (.lst (W.pre.map wyT))) v6 v7 v8 v9 v10 v11 v12) (S := S) (S1 := S) (x := .lst (W.pre.map wyT)) (xs := W.pre.map wyT) (g := fun d => match d with | .tup xs => .int (xs.length : Nat) | _ => d) rfl rfl (fun d hd => by
    obtain ⟨p, hp, rfl⟩ := List.mem_map.mp hd
    exact ⟨_, rfl, rfl⟩) (by rw [List.length_map, pre_len]; omega)
  have e2 : (W.pre.map wyT).map (fun d : D => match d with | .tup xs => D.int (xs.length : Nat) | _ => d) = W.pre.map fun p => D.int (p.length : Int) := by
    rw [List.map_map]
    exact List.map_congr_left fun p _ => by show D.int ((p.map stp).length : Nat) = _; rw [List.length_map]
  rw [e2] at e
  have m := max_ways W
  rw [trL, ev]
  have h : ev F (.bi .maxl (.cons (.comp false (.n 9) (.v 5) (.bi .len (.cons (.v 9) .nil))) .nil)) (env W (some (.lst (W.pre.map wyT))) v6 v7 v8 v9 v10 v11 v12) S = some (.int W.dp, S) := by
    rw [ev, evs, e]
    simp only [evs, seeAll, see_lst, m]
  have h1 : ∀ ρ, ev F (.c (.int 1)) ρ S = some (.int 1, S) := fun _ => rfl
  simp only [h1, h, see_int, op_add]
  rw [show (1 : Int) + (W.dp : Int) = ((W.dp + 1 : Nat) : Int) by omega]
theorem trB_loop {W : Wr} (hW : Good W) (hd : W.dp ≤ 60) (hs : W.size ≤ 200) {v5 v6 v7 v8 v11 v12 : Option D} : ∀ (l : List (List Bool × Wr)) (v9 v10 : Option D), (∀ u ∈ l, W.at? u.1 = some u.2) →
    ∃ v9' v10', forRun (.t [9, 10]) (fun ρ S => exs (run T w (n + 80)) w trB ρ S) (l.map it7) (env W v5 v6 v7 v8 v9 v10 v11 v12) S = some (.nx (env W v5 v6 v7 v8 v9' v10' v11 v12), S)
  | [], v9, v10, _ => ⟨v9, v10, rfl⟩
  | u :: l, v9, v10, h => by
    have hu := h u List.mem_cons_self
    obtain ⟨z9, z10, e⟩ := trB_loop hW hd hs l (some (wyT u.1)) (some u.2.enc) fun x hx => h x (List.mem_cons_of_mem _ hx)
    refine ⟨z9, z10, ?_⟩
    obtain ⟨_, _, b3, b4, _, b6⟩ := put_size u.1 W u.2 W hu
    have gU : Good u.2 := fun x hx => hW x (b6 x hx)
    have p1 := partAt_ok (w := w) (n := n + 79) (enc_T W) (.inl rfl) hW hu (by omega) S
    have p2 := partAt_ok (w := w) (n := n + 79) (enc_L W) (.inr rfl) hW hu (by omega) S
    have r := repr_enc gU (by omega) (by omega)
    have el : biD .list [wyT u.1] = some (wyL u.1) := rfl
    have c1 : ev (run T w (n + 80)) (.bi .repr (.cons (.call 34 (.cons (.v 1) (.cons (.v 9) .nil))) .nil)) (env W v5 v6 v7 v8 (some (wyT u.1)) (some u.2.enc) v11 v12) S = some (.str u.2.enc.py.shown, S) := by
      simp only [env, ev, evs, List.getElem?_cons_zero, List.getElem?_cons_succ, p1, seeAll, see_enc, r]
    have c2 : ev (run T w (n + 80)) (.bi .repr (.cons (.v 10) .nil)) (env W v5 v6 v7 v8 (some (wyT u.1)) (some u.2.enc) v11 v12) S = some (.str u.2.enc.py.shown, S) := by
      simp only [env, ev, evs, List.getElem?_cons_zero, List.getElem?_cons_succ, seeAll, see_enc, r]
    have c3 : ev (run T w (n + 80)) (.bi .repr (.cons (.callK 34 .nil (.cons (.bi .list (.cons (.v 9) .nil)) (.cons (.v 4) Es.nil)) [1, 0]) .nil)) (env W v5 v6 v7 v8 (some (wyT u.1)) (some u.2.enc) v11 v12) S = some (.str u.2.enc.py.shown, S) := by
      have pr : ∀ a b : D, prm [1, 0] ([] ++ [a, b]) = [b, a] := fun _ _ => rfl
      simp only [env, ev, evs, List.getElem?_cons_zero, List.getElem?_cons_succ, seeAll, see_wy, el, pr, p2, see_enc, r]
    have body : exs (run T w (n + 80)) w trB (env W v5 v6 v7 v8 (some (wyT u.1)) (some u.2.enc) v11 v12) S = some (.nx (env W v5 v6 v7 v8 (some (wyT u.1)) (some u.2.enc) v11 v12), S) := by
      rw [trB, exs, ex, ev]
      have d1 : ev (run T w (n + 80)) (.cmp .NotEq (.bi .repr (.cons (.call 34 (.cons (.v 1) (.cons (.v 9) .nil))) .nil)) (.bi .repr (.cons (.v 10) .nil))) (env W v5 v6 v7 v8 (some (wyT u.1)) (some u.2.enc) v11 v12) S = some (.bl false, S) := by
        rw [ev, c1]
        simp only [c2, see_str, ne_same]
      have d2 : ev (run T w (n + 80)) (.cmp .NotEq (.bi .repr (.cons (.callK 34 .nil (.cons (.bi .list (.cons (.v 9) .nil)) (.cons (.v 4) Es.nil)) [1, 0]) .nil)) (.bi .repr (.cons (.v 10) .nil))) (env W v5 v6 v7 v8 (some (wyT u.1)) (some u.2.enc) v11 v12) S = some (.bl false, S) := by
        rw [ev, c3]
        simp only [c2, see_str, ne_same]
      simp only [d1, d2, exs]
    have hset : setT (.t [9, 10]) (it7 u) (env W v5 v6 v7 v8 v9 v10 v11 v12) = some (env W v5 v6 v7 v8 (some (wyT u.1)) (some u.2.enc) v11 v12) := rfl
    rw [List.map_cons, forRun, hset]
    simp only [body]
    exact e
theorem told_ok {W : Wr} {cs : List Int} {R : Sto} (hW : Good W) (hd : W.dp ≤ 60) (hs : W.size ≤ 200) (hw : 10000 ≤ w) (hc : closedS (R.length + 1) R = true) {t h : Int} (t0 : 0 ≤ t) (t1 : t + 1 ≤ 1000000) (h0 : 0 ≤ h) :
    ∃ t' h' : Int, t ≤ t' ∧ t' ≤ t + 1 ∧ 0 ≤ h' ∧ run T w (n + 81) 46 [.ref 0, W.enc] (some (shelf cs t h) :: R) = some (.bl true, some (shelf cs t' h') :: R) := by
  have hcl : clo (some (shelf cs t h) :: R) := clo_sh hc
  have e1 := walked_ok (w := w) (n := n + 79) hW (by omega) (by omega) hw _ hcl
  have e2 := lawItems_ok (w := w) (n := n + 79) hW (by omega) (by omega) hw hcl
  obtain ⟨d, X, L⟩ := listed_ok (w := w) W (n + 80) _ (by omega) hcl
  have e3 := L.run
  have hlay := L.lay 1000 (some (shelf cs t h) :: R) [] rfl (by omega)
  rw [List.append_nil, List.append_nil] at hlay
  -- the store behind
  have hR1 : closedS ((R ++ List.replicate X.length none).length + 1) (R ++ List.replicate X.length none) = true := by
    rw [List.length_append]
    refine closed_app (closed_mono (by omega) hc) ?_
    unfold closedS
    rw [List.all_eq_true]
    intro o ho
    rw [List.eq_of_mem_replicate ho]
  have hst : ∀ t h : Int, some (shelf cs t h) :: R ++ List.replicate X.length none = some (shelf cs t h) :: (R ++ List.replicate X.length none) := fun _ _ => rfl
  generalize hRR : R ++ List.replicate X.length none = R1 at hR1 hst
  have hcl1 : ∀ t h : Int, clo (some (shelf cs t h) :: R1) := fun t h => clo_sh hR1
  obtain ⟨j, x, ta, ha, q1, q2, q3, q4, q5⟩ := one_ok (w := w) (n := n + 78) (dr cs) t37 (xs := [W.enc, W.encL]) (by simp) (by simp) (R := R1) t0 (by omega) h0
  have ex_ : Enc x W := by
    have := List.mem_of_getElem? q1
    simp only [List.mem_cons, List.not_mem_nil, or_false] at this
    rcases this with rfl | rfl
    · exact enc_T W
    · exact enc_L W
  refine ⟨ta, ha, q2, q3, q4, ?_⟩
  have dpn : ∀ p ∈ W.pre, p.length ≤ 60 := fun p hp => by have := pre_deep W p hp; omega
  have pln := pre_len W
  -- statements
  have s1 : ex (run T w (n + 80)) w tr1 [some (.ref 0), some W.enc, none, none, none, none, none, none, none, none, none, none, none] (some (shelf cs t h) :: R) = some (.nx [some (.ref 0), some W.enc, some (.lst ((W.wk []).map it7)), some (.lst ((its W).map D.str)), some d, none, none, none, none, none, none, none, none], some (shelf cs t h) :: R ++ X) := by
    have z : ∀ a b c : D, [a, b, c].length = [2, 3, 4].length := fun _ _ _ => rfl
    simp only [tr1, ex, ev, evs, List.getElem?_cons_zero, List.getElem?_cons_succ, e1, e2, e3, z, if_true, List.zip_cons_cons, List.zip_nil_right, List.foldl_cons, List.foldl_nil, List.set_cons_succ, List.set_cons_zero]
  have s2 : ex (run T w (n + 80)) w (.frzD 4) [some (.ref 0), some W.enc, some (.lst ((W.wk []).map it7)), some (.lst ((its W).map D.str)), some d, none, none, none, none, none, none, none, none] (some (shelf cs t h) :: R ++ X) = some (.nx (env W none none none none none none none none), some (shelf cs t h) :: R1) := by
    rw [hst] at hlay
    simp only [ex, List.getElem?_cons_zero, List.getElem?_cons_succ, hlay, List.set_cons_succ, List.set_cons_zero]
    rfl
  have s3 := tr2_ok (F := run T w (n + 80)) (w := w) (S := some (shelf cs t h) :: R1) (W := W) (v9 := none) (v10 := none) (v11 := none) (v12 := none) (by omega)
  have s4 : ex (run T w (n + 80)) w tr3 (env W (some (.lst (W.pre.map wyT))) none none none none none none none) (some (shelf cs t h) :: R1) = some (.nx (env W (some (.lst (W.pre.map wyT))) (some (.int W.size)) (some (.int (W.dp + 1 : Nat))) none none none none none), some (shelf cs t h) :: R1) := by
    have a1 := trS_ok (F := run T w (n + 80)) (S := some (shelf cs t h) :: R1) hW (by omega) (v5 := some (.lst (W.pre.map wyT))) (v6 := none) (v7 := none) (v8 := none) (v9 := none) (v10 := none) (v11 := none) (v12 := none)
    have a2 := trL_ok (F := run T w (n + 80)) (S := some (shelf cs t h) :: R1) (W := W) (by omega) (v6 := none) (v7 := none) (v8 := none) (v9 := none) (v10 := none) (v11 := none) (v12 := none)
    have z : ∀ a b : D, [a, b].length = [6, 7].length := fun _ _ => rfl
    simp only [tr3, ex, evs, a1, a2, z, if_true]
    rfl
  generalize hρ : env W (some (.lst (W.pre.map wyT))) (some (.int W.size)) (some (.int (W.dp + 1 : Nat))) none none none none none = ρ at s4
  have r0 : ρ[0]? = some (some (.ref 0)) := by rw [← hρ]; rfl
  have r1 : ρ[1]? = some (some W.enc) := by rw [← hρ]; rfl
  have r4 : ρ[4]? = some (some W.encL) := by rw [← hρ]; rfl
  have r5 : ρ[5]? = some (some (.lst (W.pre.map wyT))) := by rw [← hρ]; rfl
  have r6 : ρ[6]? = some (some (.int W.size)) := by rw [← hρ]; rfl
  have r7 : ρ[7]? = some (some (.int (W.dp + 1 : Nat))) := by rw [← hρ]; rfl
  have pr : ∀ a : D, prm [0] ([] ++ [a]) = [a] := fun _ => rfl
  have s5 : ex (run T w (n + 80)) w tr4 ρ (some (shelf cs t h) :: R1) = some (.nx ρ, some (shelf cs t h) :: R1) := by
    have a1 := isWrE_ok (w := w) (n := n + 80) (enc_T W) hW (by omega) (some (shelf cs t h) :: R1)
    have a2 := isWrE_ok (w := w) (n := n + 80) (enc_L W) hW (by omega) (some (shelf cs t h) :: R1)
    simp only [tr4, ex, exs, ev, evs, r1, r4, r5, r6, pr, a1, a2, seeAll, see_bl, see_lst, see_int, isnot_t, len_lst, List.length_map, pln, ne_int]
  have s6 : ex (run T w (n + 80)) w tr5 ρ (some (shelf cs t h) :: R1) = some (.nx ρ, some (shelf cs t h) :: R1) := by
    have a1 := signsOf_ok (w := w) (n := n + 79) (S := some (shelf cs t h) :: R1) (enc_L W) hW (by omega)
    have a2 := layersOf_ok (w := w) (n := n + 79) (S := some (shelf cs t h) :: R1) (enc_L W) hW (by omega)
    have a3 := signsOf_ok (w := w) (n := n + 79) (S := some (shelf cs t h) :: R1) (enc_T W) hW (by omega)
    have a4 := layersOf_ok (w := w) (n := n + 79) (S := some (shelf cs t h) :: R1) (enc_T W) hW (by omega)
    have b1 := repr_nat (k := W.size) (by omega)
    have b2 := repr_nat (k := W.dp + 1) (by omega)
    simp only [tr5, ex, exs, ev, evs, r1, r4, r6, r7, pr, a1, a2, a3, a4, seeAll, see_int, see_str, b1, b2, ne_same, ne_int]
  have s7 : ex (run T w (n + 80)) w tr6 ρ (some (shelf cs t h) :: R1) = some (.nx (ρ.set 8 (some (.tup (W.pre.map wyT)))), some (shelf cs ta ha) :: R1) := by
    have a1 := placesOf_ok (w := w) (n := n + 79) ex_ hW (by omega) (by omega) (by omega) (some (shelf cs ta ha) :: R1)
    simp only [tr6, ex, ev, evs, r0, r1, r4, zs2, if_true, q5, pr, a1, setT]
  have r8 : ρ.set 8 (some (.tup (W.pre.map wyT))) = env W (some (.lst (W.pre.map wyT))) (some (.int W.size)) (some (.int (W.dp + 1 : Nat))) (some (.tup (W.pre.map wyT))) none none none none := by rw [← hρ]; rfl
  rw [r8] at s7
  have s8 : ex (run T w (n + 80)) w tr7 (env W (some (.lst (W.pre.map wyT))) (some (.int W.size)) (some (.int (W.dp + 1 : Nat))) (some (.tup (W.pre.map wyT))) none none none none) (some (shelf cs ta ha) :: R1) = some (.nx (env W (some (.lst (W.pre.map wyT))) (some (.int W.size)) (some (.int (W.dp + 1 : Nat))) (some (.tup (W.pre.map wyT))) none none none none), some (shelf cs ta ha) :: R1) := by
    have b1 := repr_wys dpn (by omega)
    have b2 : biD .tuple [.lst (W.pre.map wyT)] = some (.tup (W.pre.map wyT)) := rfl
    have b3 : biD .list [.tup (W.pre.map wyT)] = some (.lst (W.pre.map wyT)) := rfl
    have b4 : biD .sorted [.lst (W.pre.map wyT)] = some (.lst (W.pre.map wyT)) := by
      obtain ⟨l, hl⟩ : ∃ l, W.pre = [] :: l := by cases W <;> exact ⟨_, rfl⟩
      have ha := pre_asc W
      rw [hl] at ha pln ⊢
      exact sort_wys (List.Perm.refl _) ha (by rw [List.length_cons] at pln; omega)
    simp only [tr7, env, ex, exs, ev, evs, List.getElem?_cons_zero, List.getElem?_cons_succ, seeAll, see_tup, see_lst, see_str, b1, b2, b3, b4, ne_same, ne_wys]
  obtain ⟨z9, z10, s9⟩ := trB_loop (w := w) (n := n) (S := some (shelf cs ta ha) :: R1) hW hd hs (v5 := some (.lst (W.pre.map wyT))) (v6 := some (.int W.size)) (v7 := some (.int (W.dp + 1 : Nat))) (v8 := some (.tup (W.pre.map wyT))) (v11 := none) (v12 := none) (W.wk []) none none (fun u hu => by
    obtain ⟨r, h1, h2⟩ := wk_at W [] u hu
    rw [List.nil_append] at h1
    rw [h1]; exact h2)
  have s9' : ex (run T w (n + 80)) w tr8 (env W (some (.lst (W.pre.map wyT))) (some (.int W.size)) (some (.int (W.dp + 1 : Nat))) (some (.tup (W.pre.map wyT))) none none none none) (some (shelf cs ta ha) :: R1) = some (.nx (env W (some (.lst (W.pre.map wyT))) (some (.int W.size)) (some (.int (W.dp + 1 : Nat))) (some (.tup (W.pre.map wyT))) z9 z10 none none), some (shelf cs ta ha) :: R1) := by
    rw [tr8, ex]
    exact s9
  generalize hρ2 : env W (some (.lst (W.pre.map wyT))) (some (.int W.size)) (some (.int (W.dp + 1 : Nat))) (some (.tup (W.pre.map wyT))) z9 z10 none none = ρ2 at s9'
  have m4 : ρ2[4]? = some (some W.encL) := by rw [← hρ2]; rfl
  have a1 := writingText_ok (w := w) (n := n + 79) (S := some (shelf cs ta ha) :: R1) (enc_L W) hW (by omega) (by omega)
  have a2 := writingText_ok (w := w) (n := n + 79) (S := some (shelf cs ta ha) :: R1) (enc_T W) hW (by omega) (by omega)
  have a3 := readWriting_ok (w := w) (n := n + 79) (S := some (shelf cs ta ha) :: R1) hW (by omega) (by omega) (hcl1 _ _)
  have s10 : ex (run T w (n + 80)) w tr9 ρ2 (some (shelf cs ta ha) :: R1) = some (.nx (ρ2.set 11 (some (.str (txt (its W))))), some (shelf cs ta ha) :: R1) := by
    simp only [tr9, ex, ev, evs, m4, pr, a1, setT]
  have s11 : ex (run T w (n + 80)) w tr10 (ρ2.set 11 (some (.str (txt (its W))))) (some (shelf cs ta ha) :: R1) = some (.rt (.bl true), some (shelf cs ta ha) :: R1) := by
    have l1 : (ρ2.set 11 (some (.str (txt (its W)))))[1]? = some (some W.enc) := by rw [← hρ2]; rfl
    have l3 : (ρ2.set 11 (some (.str (txt (its W)))))[3]? = some (some (.lst ((its W).map D.str))) := by rw [← hρ2]; rfl
    have l11 : (ρ2.set 11 (some (.str (txt (its W)))))[11]? = some (some (.str (txt (its W)))) := by rw [← hρ2]; rfl
    have hl := its_len W
    have j := join_me (S := some (shelf cs ta ha) :: R1) (l := its W) (fun x hx => (item_ok hW x hx).2.1) (by omega)
    have r := repr_enc hW hd (by omega)
    have q := eq_enc hW (by omega)
    have c1 : ev (run T w (n + 80)) (.meth .join (.c (.str " ")) (.cons (.v 3) .nil)) (ρ2.set 11 (some (.str (txt (its W))))) (some (shelf cs ta ha) :: R1) = some (.str (txt (its W)), some (shelf cs ta ha) :: R1) := by
      simp only [ev, evs, l3, see_str, Option.isSome_some, if_true, j]
    simp only [tr10, ex, ev, evs, l1, l3, l11, pr, a2, a3, see_str, see_enc, seeAll, Option.isSome_some, if_true, j, r, q, eq_same]
  rw [run_rt (S1 := some (shelf cs ta ha) :: R1) (d := .bl true) t46 rfl ?_]
  · rw [← hRR]
    have := leave_clo (S := some (shelf cs ta ha) :: R) (X := List.replicate X.length none) (d := .bl true) (clo_sh hc) rfl
    have hlen : (some (shelf cs t h) :: R).length = (some (shelf cs ta ha) :: R).length := rfl
    rw [hlen]
    exact congrArg (fun z => some (D.bl true, z)) this
  · show exs _ _ _ [some (.ref 0), some W.enc, none, none, none, none, none, none, none, none, none, none, none] _ = _
    rw [exs, s1]
    simp only []
    rw [exs, s2]
    simp only []
    rw [exs, s3]
    simp only []
    rw [exs, s4]
    simp only []
    rw [exs, s5]
    simp only []
    rw [exs, s6]
    simp only []
    rw [exs, s7]
    simp only []
    rw [exs, s8]
    simp only []
    rw [exs, s9']
    simp only []
    rw [exs, s10]
    simp only []
    rw [exs, s11]
end Lk03

set_option Elab.async false
set_option linter.all false
set_option maxRecDepth 100000
set_option maxHeartbeats 4000000
namespace Lk03
open PySem Iv
variable {w n : Nat} {S : Sto}
def wr (s : Nat) (W : Wr) : Wr := if s = 0 then .to (.nm "f") W else if s = 1 then .to W (.nm "f") else .of "y" W
def chW (s : Nat) : Nat → Wr → Wr
  | 0, W => W
  | k + 1, W => wr s (chW s k W)
theorem chW_add (s : Nat) : ∀ (a b : Nat) (W : Wr), chW s a (chW s b W) = chW s (a + b) W
  | 0, b, W => by rw [Nat.zero_add]; rfl
  | a + 1, b, W => by
    rw [Nat.add_right_comm]
    exact congrArg (wr s) (chW_add s a b W)
theorem wr_size (s : Nat) (W : Wr) : (wr s W).size ≤ W.size + 2 ∧ (wr s W).dp = W.dp + 1 := by
  unfold wr
  split
  · exact ⟨by simp only [Wr.size]; omega, by simp only [Wr.dp]; omega⟩
  · split
    · exact ⟨by simp only [Wr.size]; omega, by simp only [Wr.dp]; omega⟩
    · exact ⟨by simp only [Wr.size]; omega, by simp only [Wr.dp]⟩
theorem ch_size (s : Nat) (x : Str) : ∀ k, (chW s k (.nm x)).size ≤ 2 * k + 1 ∧ (chW s k (.nm x)).dp = k
  | 0 => ⟨Nat.le_refl _, rfl⟩
  | k + 1 => by
    have h := ch_size s x k
    have h2 := wr_size s (chW s k (.nm x))
    exact ⟨by show (wr s (chW s k (.nm x))).size ≤ _; omega, by show (wr s (chW s k (.nm x))).dp = _; omega⟩
theorem nm_f : nmOk "f" = true := by decide +kernel
theorem nm_x : nmOk "x" = true := by decide +kernel
theorem nm_y : nmOk "y" = true := by decide +kernel
theorem wr_good (s : Nat) {W : Wr} (h : Good W) : Good (wr s W) := by
  intro z hz
  unfold wr at hz
  split at hz
  · rcases List.mem_append.mp hz with hz | hz
    · rw [List.mem_singleton.mp hz]; exact nm_f
    · exact h z hz
  · split at hz
    · rcases List.mem_append.mp hz with hz | hz
      · exact h z hz
      · rw [List.mem_singleton.mp hz]; exact nm_f
    · rcases List.mem_cons.mp hz with rfl | hz
      · exact nm_y
      · exact h z hz
theorem ch_good (s : Nat) : ∀ k, Good (chW s k (.nm "x"))
  | 0 => fun z hz => by rw [List.mem_singleton.mp hz]; exact nm_x
  | k + 1 => wr_good s (ch_good s k)
theorem ch_fr (s : Nat) (h0 : s ≠ 0) (h1 : s ≠ 1) : ∀ k, ("y" : Str) ∉ (chW s k (.nm "x")).fr
  | 0 => by rw [show chW s 0 (.nm "x") = .nm "x" from rfl, fr_nm]; decide
  | k + 1 => by
    have e : chW s (k + 1) (.nm "x") = .of "y" (chW s k (.nm "x")) := by
      show wr s _ = _
      unfold wr
      rw [if_neg h0, if_neg h1]
    rw [e, fr_of]
    simp
theorem t3 : T[3]? = some ⟨1, 1, b_need_name⟩ := rfl
theorem t20 : T[20]? = some ⟨4, 7, putInB 20 17 19 18⟩ := rfl
theorem t21 : T[21]? = some ⟨3, 3, b_put_for⟩ := rfl
theorem t26 : T[26]? = some ⟨3, 4, b_put⟩ := rfl
theorem putF {sh : D} {o : D} : run T w (n + 1) 20 [.str "f", .str "x", o, sh] S = some (.str "f", S) := by
  have h := pi_nm (T := T) (w := w) (n := n) t20 (S := S) (y := "f") (x := "x") (o := o) (sh := sh)
  rw [if_neg (by decide)] at h
  exact h
theorem putIn_ch (s : Nat) {O : Wr} {sh : List Str} (hs : s ≠ 0 → s ≠ 1 → ("y" : Str) ∉ sh) : ∀ (k n : Nat), k + 2 ≤ n → run T w n 20 [(chW s k (.nm "x")).enc, .str "x", O.enc, .lst (sh.map D.str)] S = some ((chW s k O).enc, S)
  | 0, n, hn => by
    obtain ⟨n, rfl⟩ : ∃ m, n = m + 1 := ⟨n - 1, by omega⟩
    have h := pi_nm (T := T) (w := w) (n := n) t20 (S := S) (y := "x") (x := "x") (o := O.enc) (sh := .lst (sh.map D.str))
    rw [if_pos rfl] at h
    exact h
  | k + 1, n, hn => by
    obtain ⟨n, rfl⟩ : ∃ m, n = m + 2 := ⟨n - 2, by omega⟩
    have ih := putIn_ch s (O := O) hs k (n + 1) (by omega)
    have hf := putF (w := w) (n := n) (S := S) (sh := .lst (sh.map D.str)) (o := O.enc)
    show run T w (n + 2) 20 [(wr s (chW s k (.nm "x"))).enc, _, _, _] S = some ((wr s (chW s k O)).enc, S)
    unfold wr
    by_cases h0 : s = 0
    · rw [if_pos h0, if_pos h0]
      exact pi_to t20 hf ih
    · rw [if_neg h0, if_neg h0]
      by_cases h1 : s = 1
      · rw [if_pos h1, if_pos h1]
        exact pi_to t20 ih hf
      · rw [if_neg h1, if_neg h1]
        exact pi_of t20 (by decide) (.inl (hs h0 h1)) ih
theorem put_ok (s k m : Nat) (hk : k ≤ 140) (hm : m ≤ 140) (hc : clo S) : run T w (n + 150) 26 [(chW s k (.nm "x")).enc, .str "x", (chW s m (.nm "x")).enc] S = some ((chW s (k + m) (.nm "x")).enc, S) := by
  have hk1 := ch_size s "x" k
  have hm1 := ch_size s "x" m
  have z1 := need_ok (T := T) (w := w) (n := n + 148) t2 t12 t4 t13 (S := S) (p := .str "writing") (enc_T (chW s k (.nm "x"))) (ch_good s k) (by omega)
  have z2 := need_ok (T := T) (w := w) (n := n + 148) t2 t12 t4 t13 (S := S) (p := .str "other") (enc_T (chW s m (.nm "x"))) (ch_good s m) (by omega)
  have z3 : run T w (n + 149) 3 [.str "x"] S = some (.non, S) := by
    refine run_nxs (ρ := [some (.str "x")]) t3 rfl rfl ?_
    have e := isName_ok (T := T) (w := w) (n := n + 147) t2 nm_x S
    show exs _ _ b_need_name [some (.str "x")] S = _
    simp only [b_need_name, exs, ex, ev, evs, List.getElem?_cons_zero, e, Bool.not_true]
  have z4 := freeIn_ok (T := T) (w := w) (n := n + 147) t16 t17 (chW s m (.nm "x")) S (by omega) (by omega) hc
  have z5 := putIn_ch (w := w) (S := S) s (O := chW s m (.nm "x")) (sh := (chW s m (.nm "x")).fr) (fun h0 h1 => ch_fr s h0 h1 m) k (n + 148) (by omega)
  rw [chW_add] at z5
  have z6 : run T w (n + 149) 21 [(chW s k (.nm "x")).enc, .str "x", (chW s m (.nm "x")).enc] S = some ((chW s (k + m) (.nm "x")).enc, S) := by
    refine run_rts t21 rfl rfl ?_
    show exs _ _ b_put_for [some (chW s k (.nm "x")).enc, some (.str "x"), some (chW s m (.nm "x")).enc] S = _
    simp only [b_put_for, exs, ex, ev, evs, List.getElem?_cons_zero, List.getElem?_cons_succ, z4, z5]
  refine run_rts t26 rfl rfl ?_
  show exs _ _ b_put [some (chW s k (.nm "x")).enc, some (.str "x"), some (chW s m (.nm "x")).enc, none] S = _
  simp only [b_put, exs, ex, ev, evs, List.getElem?_cons_zero, List.getElem?_cons_succ, z1, z2, z3, z6, setT, List.set_cons_succ, List.set_cons_zero]
theorem compRun_fm {f : D → Sto → Option (Option D × Sto)} {p : D → Bool} {g : D → D} {S : Sto} : ∀ (xs acc : List D), (∀ d ∈ xs, f d S = some (if p d then some (g d) else none, S)) → acc.length + xs.length ≤ 100000 → compRun f xs acc S = some (acc ++ (xs.filter p).map g, S)
  | [], acc, _, _ => by simp [compRun]
  | d :: ds, acc, h, hl => by
    simp only [List.length_cons] at hl
    have hd := h d List.mem_cons_self
    have hr : ∀ e ∈ ds, f e S = some (if p e then some (g e) else none, S) := fun e he => h e (List.mem_cons_of_mem _ he)
    cases q : p d with
    | true =>
      have ih := compRun_fm (f := f) (p := p) (g := g) (S := S) ds (acc ++ [g d]) hr (by simp; omega)
      rw [q] at hd
      simp [compRun, hd, small, show acc.length + 1 ≤ 100000 by omega, ih, q]
    | false =>
      have ih := compRun_fm (f := f) (p := p) (g := g) (S := S) ds acc hr (by omega)
      rw [q] at hd
      simp [compRun, hd, ih, q]
theorem ev_fm {F : CF} {t : Tg} {it cond elt : E} {ρ : Iv.Env} {S S1 : Sto} {x : D} {xs : List D} {p : D → Bool} {g : D → D} (h1 : ev F it ρ S = some (x, S1)) (h2 : items x = some xs)
    (h3 : ∀ d ∈ xs, ∃ ρ', setT t d (wipeT t ρ) = some ρ' ∧ ev F cond ρ' S1 = some (.bl (p d), S1) ∧ ev F elt ρ' S1 = some (g d, S1)) (hl : xs.length ≤ 100000) :
    ev F (.compI false t it cond elt) ρ S = some (.lst ((xs.filter p).map g), S1) := by
  simp only [ev, h1, h2]
  rw [compRun_fm (p := p) (g := g) xs [] (fun d hd => by
        obtain ⟨ρ', e1, e2, e3⟩ := h3 d hd
        simp only [e1, e2]
        cases q : p d
        · rfl
        · simp only [e3]
          rfl) (by simpa using hl)]
  rfl
theorem ne_wysT (l : List (List Bool)) : cmpD .NotEq (.tup (l.map wyT)) (.tup (l.map wyT)) = some false := by
  obtain ⟨i1, i2, i3⟩ := wys_ok l
  have e : D.ok (.tup (l.map wyT)) = true := by
    simp only [D.ok, D.pure, D.py, PyData.canLay0, PyData.depth, i1, i2, Bool.and_self, Bool.true_and]
    exact decide_eq_true (by omega)
  show (if _ then _ else _) = _
  rw [if_pos (by rw [e]; rfl)]
  refine congrArg (fun b => some (!b)) (PySem.W.eqv_refl_alike _ ?_)
  simp only [D.py, PySem.W.alike]
  exact alikeAll_wys l
def fa1 : St := (.par [1, 2] (.cons (.call 36 (.cons (.v 0) (.cons (.c (.int 3)) .nil))) (.cons (.c (.str "x")) .nil)))
def faB : Ss := (.cons (.asg (.n 2) (.ite (.cmp .Eq (.v 1) (.c (.int 0))) (.tup (.cons (.c (.str "to")) (.cons (.c (.str "f")) (.cons (.v 2) .nil)))) (.ite (.cmp .Eq (.v 1) (.c (.int 1))) (.tup (.cons (.c (.str "to")) (.cons (.v 2) (.cons (.c (.str "f")) .nil)))) (.tup (.cons (.c (.str "of")) (.cons (.c (.str "y")) (.cons (.v 2) .nil))))))) .nil)
def fa2 : St := (.for (.n 3) (.rng (.c (.int 0)) (.c (.int 45))) faB)
def fa3 : St := (.asg (.n 4) (.v 2))
def faP : Ss := (.cons (.asg (.n 4) (.call 26 (.cons (.v 4) (.cons (.c (.str "x")) (.cons (.v 2) .nil))))) .nil)
def fa4 : St := (.for (.n 3) (.rng (.c (.int 0)) (.op .Add (.c (.int 1)) (.call 36 (.cons (.v 0) (.cons (.c (.int 3)) .nil))))) faP)
def fa5 : St := (.asg (.n 5) (.call 40 (.cons (.v 4) .nil)))
def fa6 : St := (.asg (.n 6) (.comp false (.t [8, 9]) (.v 5) (.v 8)))
def fa7 : St := (.asg (.n 7) (.op .Add (.c (.int 1)) (.bi .maxl (.cons (.comp false (.n 8) (.v 6) (.bi .len (.cons (.v 8) .nil))) .nil))))
def fa8 : St := (.ifs (.or (.cmp .IsNot (.call 12 (.cons (.v 4) .nil)) (.c (.bl true))) (.or (.cmp .NotEq (.bi .repr (.cons (.call 24 (.cons (.v 4) .nil)) .nil)) (.bi .repr (.cons (.bi .len (.cons (.v 6) .nil)) .nil))) (.or (.cmp .NotEq (.bi .repr (.cons (.call 25 (.cons (.v 4) .nil)) .nil)) (.bi .repr (.cons (.v 7) .nil))) (.cmp .NotEq (.call 33 (.cons (.v 4) .nil)) (.bi .tuple (.cons (.v 6) .nil)))))) (.cons (.ret (.c (.bl false))) .nil) .nil)
def fa9C : E := (.compI false (.t [8, 9]) (.op .Add (.stp (.v 5) 40) (.sl (.v 5) (.neg (.c (.int 2))) (.c .non))) (.cmp .NotEq (.call 34 (.cons (.v 4) (.cons (.v 8) .nil))) (.v 9)) (.v 8))
def fa9 : St := (.ifs (.cmp .NotEq fa9C (.lst .nil)) (.cons (.ret (.c (.bl false))) .nil) .nil)
def fa10 : St := (.ret (.and (.cmp .Eq (.op .Mod (.v 7) (.c (.int 45))) (.c (.int 1))) (.and (.cmp .Gt (.v 7) (.c (.int 90))) (.cmp .Eq (.call 27 (.cons (.v 4) .nil)) (.meth .join (.c (.str " ")) (.cons (.call 41 (.cons (.v 4) .nil)) .nil))))))
theorem t48 : T[48]? = some ⟨1, 10, .cons fa1 (.cons fa2 (.cons fa3 (.cons fa4 (.cons fa5 (.cons fa6 (.cons fa7 (.cons fa8 (.cons fa9 (.cons fa10 .nil)))))))))⟩ := rfl
theorem cons_turn {F : CF} {s k : Nat} (hs : s ≤ 2) {v0 v3 v4 v5 v6 v7 v8 v9 : Option D} : exs F w faB [v0, some (.int s), some (chW s k (.nm "x")).enc, v3, v4, v5, v6, v7, v8, v9] S = some (.nx [v0, some (.int s), some (chW s (k + 1) (.nm "x")).enc, v3, v4, v5, v6, v7, v8, v9], S) := by
  show exs F w faB _ S = some (.nx [v0, some (.int s), some (wr s (chW s k (.nm "x"))).enc, v3, v4, v5, v6, v7, v8, v9], S)
  obtain rfl | rfl | rfl : s = 0 ∨ s = 1 ∨ s = 2 := by omega
  · have z : cmpD .Eq (.int ((0 : Nat) : Int)) (.int 0) = some true := rfl
    simp only [faB, exs, ex, ev, evs, List.getElem?_cons_zero, List.getElem?_cons_succ, see_int, z, zs3, if_true, setT, List.set_cons_succ, List.set_cons_zero]
    rfl
  · have z : cmpD .Eq (.int ((1 : Nat) : Int)) (.int 0) = some false := rfl
    have z2 : cmpD .Eq (.int ((1 : Nat) : Int)) (.int 1) = some true := rfl
    simp only [faB, exs, ex, ev, evs, List.getElem?_cons_zero, List.getElem?_cons_succ, see_int, z, z2, zs3, if_true, setT, List.set_cons_succ, List.set_cons_zero]
    rfl
  · have z : cmpD .Eq (.int ((2 : Nat) : Int)) (.int 0) = some false := rfl
    have z2 : cmpD .Eq (.int ((2 : Nat) : Int)) (.int 1) = some false := rfl
    simp only [faB, exs, ex, ev, evs, List.getElem?_cons_zero, List.getElem?_cons_succ, see_int, z, z2, zs3, if_true, setT, List.set_cons_succ, List.set_cons_zero]
    rfl
theorem cons_loop {F : CF} {s : Nat} (hs : s ≤ 2) {v0 v4 v5 v6 v7 v8 v9 : Option D} : ∀ (ds : List D) (k : Nat) (v3 : Option D), ∃ v3', forRun (.n 3) (fun ρ S => exs F w faB ρ S) ds [v0, some (.int s), some (chW s k (.nm "x")).enc, v3, v4, v5, v6, v7, v8, v9] S = some (.nx [v0, some (.int s), some (chW s (k + ds.length) (.nm "x")).enc, v3', v4, v5, v6, v7, v8, v9], S)
  | [], k, v3 => ⟨v3, rfl⟩
  | d :: ds, k, v3 => by
    obtain ⟨v3', e⟩ := cons_loop (F := F) hs (v0 := v0) (v4 := v4) (v5 := v5) (v6 := v6) (v7 := v7) (v8 := v8) (v9 := v9) ds (k + 1) (some d)
    refine ⟨v3', ?_⟩
    rw [forRun]
    simp only [setT, List.set_cons_succ, List.set_cons_zero, cons_turn hs]
    rw [e, List.length_cons, show k + 1 + ds.length = k + (ds.length + 1) by omega]
theorem put_loop {s : Nat} (hc : clo S) {v0 v1 v5 v6 v7 v8 v9 : Option D} : ∀ (ds : List D) (k : Nat) (v3 : Option D), k + 45 * ds.length ≤ 180 → ∃ v3', forRun (.n 3) (fun ρ S => exs (run T w (n + 150)) w faP ρ S) ds [v0, v1, some (chW s 45 (.nm "x")).enc, v3, some (chW s k (.nm "x")).enc, v5, v6, v7, v8, v9] S = some (.nx [v0, v1, some (chW s 45 (.nm "x")).enc, v3', some (chW s (k + 45 * ds.length) (.nm "x")).enc, v5, v6, v7, v8, v9], S)
  | [], k, v3, _ => ⟨v3, rfl⟩
  | d :: ds, k, v3, hk => by
    rw [List.length_cons] at hk
    obtain ⟨v3', e⟩ := put_loop hc (s := s) (v0 := v0) (v1 := v1) (v5 := v5) (v6 := v6) (v7 := v7) (v8 := v8) (v9 := v9) ds (k + 45) (some d) (by omega)
    refine ⟨v3', ?_⟩
    have p := put_ok (w := w) (n := n) (S := S) s k 45 (by omega) (by omega) hc
    have b : exs (run T w (n + 150)) w faP [v0, v1, some (chW s 45 (.nm "x")).enc, some d, some (chW s k (.nm "x")).enc, v5, v6, v7, v8, v9] S = some (.nx [v0, v1, some (chW s 45 (.nm "x")).enc, some d, some (chW s (k + 45) (.nm "x")).enc, v5, v6, v7, v8, v9], S) := by
      simp only [faP, exs, ex, ev, evs, List.getElem?_cons_zero, List.getElem?_cons_succ, p, setT, List.set_cons_succ, List.set_cons_zero]
    rw [forRun]
    simp only [setT, List.set_cons_succ, List.set_cons_zero, b]
    rw [e, List.length_cons, show k + 45 + 45 * ds.length = k + 45 * (ds.length + 1) by omega]
end Lk03

set_option Elab.async false
set_option linter.all false
set_option maxRecDepth 100000
set_option maxHeartbeats 4000000
namespace Lk03
open PySem Iv
variable {w n : Nat} {S : Sto}
theorem stpD_sub {k : Nat} {xs : List D} : ∀ y ∈ stpD k xs, y ∈ xs := fun y hy => by
  unfold stpD at hy
  obtain ⟨i, _, e⟩ := List.mem_filterMap.mp hy
  exact List.mem_of_getElem? e
theorem stpD_len (xs : List D) : (stpD 40 xs).length ≤ xs.length + 1 := by
  unfold stpD
  refine Nat.le_trans (List.length_filterMap_le _ _) ?_
  show (PySem.sliceRange 0 (xs.length : Int) 40).length ≤ _
  unfold PySem.sliceRange
  rw [List.length_map, List.length_range]
  simp only [show ((40 : Int) > 0) = True from by simp, if_true]
  split <;> omega
theorem cutD_sub {xs : List D} {lo hi : Option Int} : ∀ y ∈ cutD xs lo hi, y ∈ xs := fun y hy => List.mem_of_mem_drop (List.mem_of_mem_take hy)
theorem cutD_len {xs : List D} {lo hi : Option Int} : (cutD xs lo hi).length ≤ xs.length := by
  unfold cutD
  rw [List.length_take, List.length_drop]
  omega
def envF (s : Nat) (W : Wr) (v3 v5 v6 v7 v8 v9 : Option D) : Iv.Env := [some (.ref 0), some (.int s), some (chW s 45 (.nm "x")).enc, v3, some W.enc, v5, v6, v7, v8, v9]
theorem fa6_ok {F : CF} {s : Nat} {W : Wr} {v3 v8 v9 : Option D} (hs : W.size ≤ 5000) : ex F w fa6 (envF s W v3 (some (.lst ((W.wk []).map it7))) none none v8 v9) S = some (.nx (envF s W v3 (some (.lst ((W.wk []).map it7))) (some (.lst (W.pre.map wyT))) none v8 v9), S) := by
  have e := ev_comp (F := F) (t := .t [8, 9]) (it := .v 5) (elt := .v 8) (ρ := envF s W v3 (some (.lst ((W.wk []).map it7))) none none v8 v9) (S := S) (S1 := S) (x := .lst ((W.wk []).map it7)) (xs := (W.wk []).map it7) (g := wayD) rfl rfl (fun d hd => by
    obtain ⟨u, hu, rfl⟩ := List.mem_map.mp hd
    exact ⟨_, rfl, rfl⟩) (by rw [List.length_map, wk_len]; omega)
  have e2 : ((W.wk []).map it7).map wayD = W.pre.map wyT := by
    rw [List.map_map]
    have h := wk_ways W []
    have : W.pre.map (fun r => ([] : List Bool) ++ r) = W.pre := by simp
    rw [this] at h
    rw [← h, List.map_map]
    rfl
  rw [e2] at e
  rw [fa6, ex, e]
  rfl
theorem fa7_ok {F : CF} {s : Nat} {W : Wr} {v3 v5 v8 v9 : Option D} (hs : W.size ≤ 5000) : ex F w fa7 (envF s W v3 v5 (some (.lst (W.pre.map wyT))) none v8 v9) S = some (.nx (envF s W v3 v5 (some (.lst (W.pre.map wyT))) (some (.int (W.dp + 1 : Nat))) v8 v9), S) := by
  have e := ev_comp (F := F) (t := .n 8) (it := .v 6) (elt := .bi .len (.cons (.v 8) .nil)) (ρ := envF s W v3 v5 (some (.lst (W.pre.map wyT))) none v8 v9) (S := S) (S1 := S) (x := .lst (W.pre.map wyT)) (xs := W.pre.map wyT) (g := fun d => match d with | .tup xs => .int (xs.length : Nat) | _ => d) rfl rfl (fun d hd => by
    obtain ⟨p, hp, rfl⟩ := List.mem_map.mp hd
    exact ⟨_, rfl, rfl⟩) (by rw [List.length_map, pre_len]; omega)
  have e2 : (W.pre.map wyT).map (fun d : D => match d with | .tup xs => D.int (xs.length : Nat) | _ => d) = W.pre.map fun p => D.int (p.length : Int) := by
    rw [List.map_map]
    exact List.map_congr_left fun p _ => by show D.int ((p.map stp).length : Nat) = _; rw [List.length_map]
  rw [e2] at e
  have m := max_ways W
  have h : ev F (.bi .maxl (.cons (.comp false (.n 8) (.v 6) (.bi .len (.cons (.v 8) .nil))) .nil)) (envF s W v3 v5 (some (.lst (W.pre.map wyT))) none v8 v9) S = some (.int W.dp, S) := by
    rw [ev, evs, e]
    simp only [evs, seeAll, see_lst, m]
  have h1 : ∀ ρ, ev F (.c (.int 1)) ρ S = some (.int 1, S) := fun _ => rfl
  rw [fa7, ex, ev]
  simp only [h1, h, see_int, op_add]
  rw [show (1 : Int) + (W.dp : Int) = ((W.dp + 1 : Nat) : Int) by omega]
  rfl
theorem far_ok {cs : List Int} {R : Sto} (hw : 10000 ≤ w) (hc : closedS (R.length + 1) R = true) {t h : Int} (t0 : 0 ≤ t) (t1 : t + 2 ≤ 1000000) (h0 : 0 ≤ h) :
    ∃ t' h' : Int, t ≤ t' ∧ t' ≤ t + 2 ∧ 0 ≤ h' ∧ run T w (n + 201) 48 [.ref 0] (some (shelf cs t h) :: R) = some (.bl true, some (shelf cs t' h') :: R) := by
  obtain ⟨ra, ta, ha, a0, a1, a2, a3, a4, ea⟩ := (dr (w := w) cs).ok (n + 199) R 3 t h (by decide) (by decide) t0 (by omega) h0
  obtain ⟨s, rfl⟩ := Int.eq_ofNat_of_zero_le a0
  have hs : s ≤ 2 := by omega
  obtain ⟨rb, tb, hb, b0, b1, b2, b3, b4, eb⟩ := (dr (w := w) cs).ok (n + 199) R 3 ta ha (by decide) (by decide) (by omega) (by omega) a4
  obtain ⟨r, rfl⟩ := Int.eq_ofNat_of_zero_le b0
  have hcl : ∀ t h : Int, clo (some (shelf cs t h) :: R) := fun t h => clo_sh hc
  refine ⟨tb, hb, by omega, by omega, b4, ?_⟩
  generalize hF : run T w (n + 200) = F at ea eb
  have s1 : ex F w fa1 [some (.ref 0), none, none, none, none, none, none, none, none, none] (some (shelf cs t h) :: R) = some (.nx [some (.ref 0), some (.int s), some (chW s 0 (.nm "x")).enc, none, none, none, none, none, none, none], some (shelf cs ta ha) :: R) := by
    have z : ∀ a b : D, [a, b].length = [1, 2].length := fun _ _ => rfl
    simp only [fa1, ex, ev, evs, List.getElem?_cons_zero, ea, z, if_true, List.zip_cons_cons, List.zip_nil_right, List.foldl_cons, List.foldl_nil, List.set_cons_succ, List.set_cons_zero]
    rfl
  obtain ⟨v3, e2⟩ := cons_loop (w := w) (S := some (shelf cs ta ha) :: R) (F := F) hs (v0 := some (.ref 0)) (v4 := none) (v5 := none) (v6 := none) (v7 := none) (v8 := none) (v9 := none) ((List.range 45).map fun (k : Nat) => D.int (0 + k)) 0 none
  rw [List.length_map, List.length_range, Nat.zero_add] at e2
  have s2 : ex F w fa2 [some (.ref 0), some (.int s), some (chW s 0 (.nm "x")).enc, none, none, none, none, none, none, none] (some (shelf cs ta ha) :: R) = some (.nx [some (.ref 0), some (.int s), some (chW s 45 (.nm "x")).enc, v3, none, none, none, none, none, none], some (shelf cs ta ha) :: R) := by
    have er : ∀ ρ S, ev F (.rng (.c (.int 0)) (.c (.int 45))) ρ S = some (.lst ((List.range 45).map fun (k : Nat) => D.int (0 + k)), S) := fun ρ S => rfl
    rw [fa2, ex, er]
    simp only [items]
    exact e2
  have s3 : ex F w fa3 [some (.ref 0), some (.int s), some (chW s 45 (.nm "x")).enc, v3, none, none, none, none, none, none] (some (shelf cs ta ha) :: R) = some (.nx [some (.ref 0), some (.int s), some (chW s 45 (.nm "x")).enc, v3, some (chW s 45 (.nm "x")).enc, none, none, none, none, none], some (shelf cs ta ha) :: R) := by
    simp only [fa3, ex, ev, List.getElem?_cons_zero, List.getElem?_cons_succ, setT, List.set_cons_succ, List.set_cons_zero]
  obtain ⟨u3, e4⟩ := put_loop (w := w) (n := n + 50) (s := s) (hcl tb hb) (v0 := some (.ref 0)) (v1 := some (.int s)) (v5 := none) (v6 := none) (v7 := none) (v8 := none) (v9 := none) ((List.range (1 + r)).map fun (k : Nat) => D.int (0 + k)) 45 v3 (by rw [List.length_map, List.length_range]; omega)
  rw [List.length_map, List.length_range] at e4
  rw [show n + 50 + 150 = n + 200 by omega, hF] at e4
  generalize hkk : 45 + 45 * (1 + r) = k at e4
  have hk1 : 90 ≤ k := by omega
  have hk2 : k ≤ 180 := by omega
  have hk3 : k % 45 = 0 := by omega
  obtain ⟨hz1, hz2⟩ := ch_size s "x" k
  have hW := ch_good s k
  generalize hWW : chW s k (.nm "x") = W at e4 hz1 hz2 hW
  have s4 : ex F w fa4 [some (.ref 0), some (.int s), some (chW s 45 (.nm "x")).enc, v3, some (chW s 45 (.nm "x")).enc, none, none, none, none, none] (some (shelf cs ta ha) :: R) = some (.nx (envF s W u3 none none none none none), some (shelf cs tb hb) :: R) := by
    have er : ev F (.rng (.c (.int 0)) (.op .Add (.c (.int 1)) (.call 36 (.cons (.v 0) (.cons (.c (.int 3)) .nil))))) [some (.ref 0), some (.int s), some (chW s 45 (.nm "x")).enc, v3, some (chW s 45 (.nm "x")).enc, none, none, none, none, none] (some (shelf cs ta ha) :: R) = some (.lst ((List.range (1 + r)).map fun (k : Nat) => D.int (0 + k)), some (shelf cs tb hb) :: R) := by
      have g1 : (decide (-(2 ^ 62) ≤ (0 : Int)) && decide ((0 : Int) < 2 ^ 62) && decide (-(2 ^ 62) ≤ (1 + (r : Int))) && decide ((1 + (r : Int)) < 2 ^ 62)) = true := by
        simp only [Bool.and_eq_true, decide_eq_true_eq]; omega
      have g2 : (1 + (r : Int) - 0).toNat = 1 + r := by omega
      rw [ev]
      simp only [ev, evs, List.getElem?_cons_zero, eb, see_int, op_add]
      rw [if_pos g1, g2]
    rw [fa4, ex, er]
    simp only [items]
    exact e4
  have a40 := walked_ok (w := w) (n := n + 199) hW (by omega) (by omega) hw _ (hcl tb hb)
  rw [show n + 199 + 1 = n + 200 by omega, hF] at a40
  have s5 : ex F w fa5 (envF s W u3 none none none none none) (some (shelf cs tb hb) :: R) = some (.nx (envF s W u3 (some (.lst ((W.wk []).map it7))) none none none none), some (shelf cs tb hb) :: R) := by
    simp only [fa5, envF, ex, ev, evs, List.getElem?_cons_zero, List.getElem?_cons_succ, a40, setT, List.set_cons_succ, List.set_cons_zero]
  have s6 := fa6_ok (F := F) (w := w) (S := some (shelf cs tb hb) :: R) (s := s) (W := W) (v3 := u3) (v8 := none) (v9 := none) (by omega)
  have s7 := fa7_ok (F := F) (w := w) (S := some (shelf cs tb hb) :: R) (s := s) (W := W) (v3 := u3) (v5 := some (.lst ((W.wk []).map it7))) (v8 := none) (v9 := none) (by omega)
  generalize hρ : envF s W u3 (some (.lst ((W.wk []).map it7))) (some (.lst (W.pre.map wyT))) (some (.int (W.dp + 1 : Nat))) none none = ρ at s7
  have r4 : ρ[4]? = some (some W.enc) := by rw [← hρ]; rfl
  have r5 : ρ[5]? = some (some (.lst ((W.wk []).map it7))) := by rw [← hρ]; rfl
  have r6 : ρ[6]? = some (some (.lst (W.pre.map wyT))) := by rw [← hρ]; rfl
  have r7 : ρ[7]? = some (some (.int (W.dp + 1 : Nat))) := by rw [← hρ]; rfl
  have pln := pre_len W
  have wln := wk_len W []
  have s8 : ex F w fa8 ρ (some (shelf cs tb hb) :: R) = some (.nx ρ, some (shelf cs tb hb) :: R) := by
    have c1 := isWrE_ok (w := w) (n := n + 200) (enc_T W) hW (by omega) (some (shelf cs tb hb) :: R)
    have c2 := signsOf_ok (w := w) (n := n + 199) (S := some (shelf cs tb hb) :: R) (enc_T W) hW (by omega)
    have c3 := layersOf_ok (w := w) (n := n + 199) (S := some (shelf cs tb hb) :: R) (enc_T W) hW (by omega)
    have c4 := placesOf_ok (w := w) (n := n + 199) (enc_T W) hW (by omega) (by omega) (by omega) (some (shelf cs tb hb) :: R)
    rw [show n + 199 + 1 = n + 200 by omega] at c2 c3 c4
    rw [hF] at c1 c2 c3 c4
    have b1 := repr_nat (k := W.size) (by omega)
    have b2 := repr_nat (k := W.dp + 1) (by omega)
    have b3 : biD .tuple [.lst (W.pre.map wyT)] = some (.tup (W.pre.map wyT)) := rfl
    simp only [fa8, ex, exs, ev, evs, r4, r6, r7, c1, c2, c3, c4, seeAll, see_bl, see_lst, see_tup, see_int, see_str, isnot_t, len_lst, List.length_map, pln, b1, b2, b3, ne_same, ne_wysT]
  have s9 : ex F w fa9 ρ (some (shelf cs tb hb) :: R) = some (.nx ρ, some (shelf cs tb hb) :: R) := by
    have sl := stpD_len ((W.wk []).map it7)
    have cl := cutD_len (xs := (W.wk []).map it7) (lo := some (-2)) (hi := none)
    rw [List.length_map, wln] at sl cl
    have sm : small ((W.wk []).map it7).length = true := decide_eq_true (by rw [List.length_map]; omega)
    have sm2 : small ((stpD 40 ((W.wk []).map it7)).length + (cutD ((W.wk []).map it7) (some (-2)) none).length) = true := decide_eq_true (by omega)
    have zb : ((isNonE (E.neg (.c (.int 2))) || isIntD (.int (-2))) && (isNonE (E.c .non) || isIntD .non)) = true := rfl
    have zk : (decide (0 < 40) && small ((W.wk []).map it7).length) = true := by rw [sm]; rfl
    have eit : ev F (.op .Add (.stp (.v 5) 40) (.sl (.v 5) (.neg (.c (.int 2))) (.c .non))) ρ (some (shelf cs tb hb) :: R) = some (.lst (stpD 40 ((W.wk []).map it7) ++ cutD ((W.wk []).map it7) (some (-2)) none), some (shelf cs tb hb) :: R) := by
      simp only [ev, r5, see_lst, zk, if_true, part?, zb, slD, opD, sm2]
    have ef := ev_fm (F := F) (t := .t [8, 9]) (it := .op .Add (.stp (.v 5) 40) (.sl (.v 5) (.neg (.c (.int 2))) (.c .non))) (cond := .cmp .NotEq (.call 34 (.cons (.v 4) (.cons (.v 8) .nil))) (.v 9)) (elt := .v 8) (ρ := ρ) (S := some (shelf cs tb hb) :: R) (S1 := some (shelf cs tb hb) :: R) (p := fun _ => false) (g := wayD) eit rfl (fun d hd => by
      have hd' : d ∈ (W.wk []).map it7 := by
        rcases List.mem_append.mp hd with hd | hd
        · exact stpD_sub d hd
        · exact cutD_sub d hd
      obtain ⟨u, hu, rfl⟩ := List.mem_map.mp hd'
      obtain ⟨q, q1, q2⟩ := wk_at W [] u hu
      rw [List.nil_append] at q1
      rw [← q1] at q2
      obtain ⟨_, _, b3, b4, _, b6⟩ := put_size u.1 W u.2 W q2
      have gU : Good u.2 := fun x hx => hW x (b6 x hx)
      have p1 := partAt_ok (w := w) (n := n + 199) (enc_T W) (.inl rfl) hW q2 (by omega) (some (shelf cs tb hb) :: R)
      rw [show n + 199 + 1 = n + 200 by omega, hF] at p1
      have ne := ne_enc gU (by omega)
      refine ⟨envF s W u3 (some (.lst ((W.wk []).map it7))) (some (.lst (W.pre.map wyT))) (some (.int (W.dp + 1 : Nat))) (some (wyT u.1)) (some u.2.enc), by rw [← hρ]; rfl, ?_, rfl⟩
      simp only [envF, ev, evs, List.getElem?_cons_zero, List.getElem?_cons_succ, p1, see_enc, ne]) (by rw [List.length_append]; omega)
    have ef2 : (stpD 40 ((W.wk []).map it7) ++ cutD ((W.wk []).map it7) (some (-2)) none).filter (fun _ => false) = [] := List.filter_eq_nil_iff.mpr fun _ _ => by simp
    rw [ef2, List.map_nil] at ef
    have z : cmpD .NotEq (.lst []) (.lst []) = some false := by decide +kernel
    have ec : ev F fa9C ρ (some (shelf cs tb hb) :: R) = some (.lst [], some (shelf cs tb hb) :: R) := ef
    rw [fa9, ex, ev, ec]
    simp only [ev, evs, zs0, if_true, see_lst, z, exs]
  have s10 : ex F w fa10 ρ (some (shelf cs tb hb) :: R) = some (.rt (.bl true), some (shelf cs tb hb) :: R) := by
    have c1 := writingText_ok (w := w) (n := n + 199) (S := some (shelf cs tb hb) :: R) (enc_T W) hW (by omega) (by omega)
    have c2 := lawItems_ok (w := w) (n := n + 199) (S := some (shelf cs tb hb) :: R) hW (by omega) (by omega) hw (hcl tb hb)
    rw [show n + 199 + 1 = n + 200 by omega, hF] at c1 c2
    have hl := its_len W
    have j := join_me (S := some (shelf cs tb hb) :: R) (l := its W) (fun x hx => (item_ok hW x hx).2.1) (by omega)
    have m1 : opD .Mod (.int (W.dp + 1 : Nat)) (.int 45) = some (.int 1) := by
      rw [op_mod (by decide)]
      congr 2
      omega
    have m2 : cmpD .Eq (.int 1) (.int 1) = some true := rfl
    have m3 : cmpD .Gt (.int (W.dp + 1 : Nat)) (.int 90) = some true := congrArg some (decide_eq_true (by omega))
    simp only [fa10, ex, ev, evs, r4, r7, see_int, see_str, m1, m2, m3, c1, c2, Option.isSome_some, if_true, j, eq_same]
  refine run_rts t48 rfl rfl ?_
  rw [hF]
  show exs _ _ _ [some (.ref 0), none, none, none, none, none, none, none, none, none] _ = _
  rw [exs, s1]
  simp only []
  rw [exs, s2]
  simp only []
  rw [exs, s3]
  simp only []
  rw [exs, s4]
  simp only []
  rw [exs, s5]
  simp only []
  rw [exs, s6]
  simp only []
  rw [exs, s7]
  simp only []
  rw [exs, s8]
  simp only []
  rw [exs, s9]
  simp only []
  rw [exs, s10]
def nsl : List (List Str) := [["x", "y"], ["f", "x", "ofx"], ["abcdefghijkl", "a", "to1"], ["z9", "z"]]
theorem nsl_ok : ∀ l ∈ nsl, l ≠ [] ∧ l.length ≤ 3 ∧ ∀ x ∈ l, nmOk x = true := by decide +kernel
def nslE : E := (.lst (.cons (.lst (.cons (.c (.str "x")) (.cons (.c (.str "y")) .nil))) (.cons (.lst (.cons (.c (.str "f")) (.cons (.c (.str "x")) (.cons (.c (.str "ofx")) .nil)))) (.cons (.lst (.cons (.c (.str "abcdefghijkl")) (.cons (.c (.str "a")) (.cons (.c (.str "to1")) .nil)))) (.cons (.lst (.cons (.c (.str "z9")) (.cons (.c (.str "z")) .nil))) .nil)))))
def lp1 : St := (.asg (.n 4) (.call 37 (.cons (.v 1) (.cons nslE .nil))))
def lp2 : St := (.asg (.n 5) (.call 38 (.cons (.v 1) (.cons (.op .Add (.c (.int 1)) (.call 36 (.cons (.v 1) (.cons (.c (.int 20)) .nil)))) (.cons (.v 4) .nil)))))
def lp3 : St := (.ifs (.or (.not (.call 46 (.cons (.v 1) (.cons (.v 5) .nil)))) (.not (.call 47 (.cons (.v 1) (.cons (.v 5) .nil))))) (.cons (.ret (.c (.bl false))) .nil) .nil)
def lapB : Ss := (.cons lp1 (.cons lp2 (.cons lp3 .nil)))
def lw2 : St := (.for (.n 2) (.rng (.c (.int 0)) (.c (.int 3))) lapB)
def lw3 : St := (.asg (.n 3) (.call 36 (.cons (.v 1) (.cons (.c (.int 3)) .nil))))
def lw4 : St := (.ifs (.cmp .Eq (.v 3) (.c (.int 0))) (.cons (.ret (.call 46 (.cons (.v 1) (.cons (.call 38 (.cons (.v 1) (.cons (.op .Sub (.c (.int 200)) (.call 36 (.cons (.v 1) (.cons (.c (.int 9)) .nil)))) (.cons (.lst (.cons (.c (.str "x")) (.cons (.c (.str "y")) (.cons (.c (.str "f")) .nil)))) .nil)))) .nil)))) .nil) .nil)
def lw5 : St := (.ret (.or (.cmp .Gt (.v 3) (.c (.int 1))) (.call 48 (.cons (.v 1) .nil))))
theorem t49 : T[49]? = some ⟨1, 6, .cons (.asg (.n 1) (.call 35 (.cons (.v 0) .nil))) (.cons lw2 (.cons lw3 (.cons lw4 (.cons lw5 .nil))))⟩ := rfl
theorem closed0 : closedS (([] : Sto).length + 1) [] = true := rfl
theorem laps_ok {c : List Int} {v0 v3 : Option D} (hw : 10000 ≤ w) : ∀ (l : List D) (t h : Int) (y2 y4 y5 : Option D), 0 ≤ t → t + 100 * l.length ≤ 500000 → 0 ≤ h → ∃ t' h' z2 z4 z5, t ≤ t' ∧ t' ≤ t + 100 * l.length ∧ 0 ≤ h' ∧
    forRun (.n 2) (fun ρ S => exs (run T w (n + 202)) w lapB ρ S) l [v0, some (.ref 0), y2, v3, y4, y5] [some (shelf c t h)] = some (.nx [v0, some (.ref 0), z2, v3, z4, z5], [some (shelf c t' h')])
  | [], t, h, y2, y4, y5, t0, t1, h0 => ⟨t, h, y2, y4, y5, by omega, by simp, h0, rfl⟩
  | d :: l, t, h, y2, y4, y5, t0, t1, h0 => by
    simp only [List.length_cons] at t1 ⊢
    obtain ⟨j, z, ta, ha, hj, a1, a2, a3, ea⟩ := one_ok (n := n + 200) (dr (w := w) c) t37 (xs := nsl.map fun l => .lst (l.map D.str)) (by decide) (by decide) (R := []) t0 (by omega) h0
    rw [List.getElem?_map] at hj
    obtain ⟨ns, hns, rfl⟩ : ∃ ns ∈ nsl, z = .lst (ns.map D.str) := by
      cases hx2 : nsl[j]? with
      | none => rw [hx2] at hj; cases hj
      | some u => rw [hx2] at hj; cases hj; exact ⟨u, List.mem_of_getElem? hx2, rfl⟩
    obtain ⟨n0, nl, nok⟩ := nsl_ok ns hns
    obtain ⟨rb, tb, hb, b0, b1, b2, b3, b4, eb⟩ := (dr (w := w) c).ok (n + 201) [] 20 ta ha (by decide) (by decide) (by omega) (by omega) a3
    obtain ⟨W, tc, hc, c1, c2, c3, c4, c5, c6, ec⟩ := drawn_ok (dr (w := w) c) t37 t38 (ns := ns) n0 (by omega) (R := []) (1 + rb).toNat (by omega) (n + 202) tb hb (by unfold dpb; split <;> omega) (by omega) (by omega) b4
    rw [show (((1 + rb).toNat : Nat) : Int) = 1 + rb by omega] at ec
    have gW : Good W := fun x hx => nok x (c1 x hx)
    have dW : W.dp ≤ 20 := by unfold dpb at c3; split at c3 <;> omega
    obtain ⟨td, hd, d1, d2, d3, ed⟩ := told_ok (w := w) (n := n + 121) (cs := c) (R := []) gW (by omega) (by omega) hw closed0 (t := tc) (h := hc) (by omega) (by omega) c6
    obtain ⟨te, he, e1, e2, e3, ee⟩ := looked_ok (w := w) (n := n + 201) (cs := c) (R := []) gW (by omega) (by omega) hw (by omega) closed0 (t := td) (h := hd) (by omega) (by omega) d3
    obtain ⟨tm, hm, z2, z4, z5, m1, m2, m3, em⟩ := laps_ok (c := c) (v0 := v0) (v3 := v3) hw l te he (some d) (some (.lst (ns.map D.str))) (some W.enc) (by omega) (by omega) e3
    refine ⟨tm, hm, z2, z4, z5, by omega, by omega, m3, ?_⟩
    generalize hL : D.lst (ns.map D.str) = L at *
    have zn : ∀ ρ S, ev (run T w (n + 202)) nslE ρ S = some (.lst (nsl.map fun l => .lst (l.map D.str)), S) := fun _ _ => rfl
    have s1 : ex (run T w (n + 202)) w lp1 [v0, some (.ref 0), some d, v3, y4, y5] [some (shelf c t h)] = some (.nx [v0, some (.ref 0), some d, v3, some L, y5], [some (shelf c ta ha)]) := by
      simp only [lp1, ex, ev, evs, List.getElem?_cons_zero, List.getElem?_cons_succ, zn, ea, setT, List.set_cons_succ, List.set_cons_zero]
    have s2 : ex (run T w (n + 202)) w lp2 [v0, some (.ref 0), some d, v3, some L, y5] [some (shelf c ta ha)] = some (.nx [v0, some (.ref 0), some d, v3, some L, some W.enc], [some (shelf c tc hc)]) := by
      simp only [lp2, ex, ev, evs, List.getElem?_cons_zero, List.getElem?_cons_succ, eb, see_int, op_add, ec, setT, List.set_cons_succ, List.set_cons_zero]
    have ed' : run T w (n + 202) 46 [.ref 0, W.enc] [some (shelf c tc hc)] = some (.bl true, [some (shelf c td hd)]) := ed
    have s3 : ex (run T w (n + 202)) w lp3 [v0, some (.ref 0), some d, v3, some L, some W.enc] [some (shelf c tc hc)] = some (.nx [v0, some (.ref 0), some d, v3, some L, some W.enc], [some (shelf c te he)]) := by
      simp only [lp3, ex, exs, ev, evs, List.getElem?_cons_zero, List.getElem?_cons_succ, ed', ee, Bool.not_true]
    rw [forRun]
    simp only [setT, List.set_cons_succ, List.set_cons_zero, lapB, exs, s1, s2, s3]
    exact em
theorem law_ok {cs : List Int} (hw : 10000 ≤ w) : ∃ S', run T w (n + 203) 49 [.lst (cs.map D.int)] [] = some (.bl true, S') := by
  have e1 := shelf_ok (w := w) (n := n + 201) (k := 60) t35 (by decide) cs
  generalize cs.take 60 = c at e1
  generalize hv0 : D.lst (cs.map D.int) = v0 at *
  obtain ⟨ta, ha, y2, y4, y5, a1, a2, a3, ea⟩ := laps_ok (n := n) (w := w) (c := c) (v0 := some v0) (v3 := none) hw ([0, 1, 2].map D.int) 0 0 none none none (by decide) (by decide) (by decide)
  simp only [List.length_map, List.length_cons, List.length_nil] at a2
  have s1 : ex (run T w (n + 202)) w (.asg (.n 1) (.call 35 (.cons (.v 0) .nil))) [some v0, none, none, none, none, none] [] = some (.nx [some v0, some (.ref 0), none, none, none, none], [some (shelf c 0 0)]) := by
    simp only [ex, ev, evs, List.getElem?_cons_zero, e1, setT, List.set_cons_succ, List.set_cons_zero]
  have s2 : ex (run T w (n + 202)) w lw2 [some v0, some (.ref 0), none, none, none, none] [some (shelf c 0 0)] = some (.nx [some v0, some (.ref 0), y2, none, y4, y5], [some (shelf c ta ha)]) := by
    have hr : ∀ ρ S, ev (run T w (n + 202)) (.rng (.c (.int 0)) (.c (.int 3))) ρ S = some (.lst ([0, 1, 2].map D.int), S) := fun _ _ => rfl
    have hi : items (.lst ([0, 1, 2].map D.int)) = some ([0, 1, 2].map D.int) := rfl
    rw [lw2, ex]
    simp only [hr, hi]
    exact ea
  obtain ⟨rb, tb, hb, b0, b1, b2, b3, b4, eb⟩ := (dr (w := w) c).ok (n + 201) [] 3 ta ha (by decide) (by decide) (by omega) (by omega) a3
  have s3 : ex (run T w (n + 202)) w lw3 [some v0, some (.ref 0), y2, none, y4, y5] [some (shelf c ta ha)] = some (.nx [some v0, some (.ref 0), y2, some (.int rb), y4, y5], [some (shelf c tb hb)]) := by
    simp only [lw3, ex, ev, evs, List.getElem?_cons_zero, List.getElem?_cons_succ, eb, setT, List.set_cons_succ, List.set_cons_zero]
  have fin : ∀ {o S'}, exs (run T w (n + 202)) w (.cons lw4 (.cons lw5 .nil)) [some v0, some (.ref 0), y2, some (.int rb), y4, y5] [some (shelf c tb hb)] = some (.rt o, S') → ∃ S'', run T w (n + 203) 49 [v0] [] = some (o, S'') := fun {o S'} e => by
    refine ⟨_, run_rt t49 rfl (d := o) (S1 := S') ?_⟩
    show exs _ _ (.cons (.asg (.n 1) (.call 35 (.cons (.v 0) .nil))) (.cons lw2 (.cons lw3 (.cons lw4 (.cons lw5 .nil))))) [some v0, none, none, none, none, none] [] = _
    rw [exs, s1]
    simp only []
    rw [exs, s2]
    simp only []
    rw [exs, s3]
    exact e
  by_cases hr : rb = 0
  · have z1 : cmpD .Eq (.int rb) (.int 0) = some true := congrArg some (decide_eq_true hr)
    obtain ⟨rc, tc, hc, c0, c1, c2, c3, c4, ec⟩ := (dr (w := w) c).ok (n + 201) [] 9 tb hb (by decide) (by decide) (by omega) (by omega) b4
    obtain ⟨W, td, hd, d1, d2, d3, d4, d5, d6, ed⟩ := drawn_ok (dr (w := w) c) t37 t38 (ns := ["x", "y", "f"]) (by decide) (by decide) (R := []) (200 - rc).toNat (by omega) (n + 202) tc hc (by unfold dpb; split <;> omega) (by omega) (by omega) c4
    rw [show (((200 - rc).toNat : Nat) : Int) = 200 - rc by omega] at ed
    have xok : ∀ x ∈ (["x", "y", "f"] : List Str), nmOk x = true := by decide +kernel
    have gW : Good W := fun x hx => xok x (d1 x hx)
    have dW : W.dp ≤ 60 := by unfold dpb at d3; split at d3 <;> omega
    obtain ⟨te, he, f1, f2, f3, ef⟩ := told_ok (w := w) (n := n + 121) (cs := c) (R := []) gW (by omega) (by omega) hw closed0 (t := td) (h := hd) (by omega) (by omega) d6
    have ef' : run T w (n + 202) 46 [.ref 0, W.enc] [some (shelf c td hd)] = some (.bl true, [some (shelf c te he)]) := ef
    have ed' : run T w (n + 202) 38 [.ref 0, .int (200 - rc), .lst [.str "x", .str "y", .str "f"]] [some (shelf c tc hc)] = some (W.enc, [some (shelf c td hd)]) := ed
    refine fin (o := .bl true) (S' := [some (shelf c te he)]) ?_
    have s4 : ex (run T w (n + 202)) w lw4 [some v0, some (.ref 0), y2, some (.int rb), y4, y5] [some (shelf c tb hb)] = some (.rt (.bl true), [some (shelf c te he)]) := by
      simp only [lw4, ex, exs, ev, evs, List.getElem?_cons_zero, List.getElem?_cons_succ, see_int, z1, ec, op_sub, zs3, if_true, ed', ef']
    rw [exs, s4]
  · have z1 : cmpD .Eq (.int rb) (.int 0) = some false := congrArg some (decide_eq_false hr)
    have s4 : ex (run T w (n + 202)) w lw4 [some v0, some (.ref 0), y2, some (.int rb), y4, y5] [some (shelf c tb hb)] = some (.nx [some v0, some (.ref 0), y2, some (.int rb), y4, y5], [some (shelf c tb hb)]) := by
      simp only [lw4, ex, exs, ev, evs, List.getElem?_cons_zero, List.getElem?_cons_succ, see_int, z1]
    by_cases h1 : 1 < rb
    · have z2 : cmpD .Gt (.int rb) (.int 1) = some true := congrArg some (decide_eq_true h1)
      refine fin (o := .bl true) (S' := [some (shelf c tb hb)]) ?_
      have s5 : ex (run T w (n + 202)) w lw5 [some v0, some (.ref 0), y2, some (.int rb), y4, y5] [some (shelf c tb hb)] = some (.rt (.bl true), [some (shelf c tb hb)]) := by
        simp only [lw5, ex, ev, evs, List.getElem?_cons_zero, List.getElem?_cons_succ, see_int, z2]
      rw [exs, s4]
      simp only []
      rw [exs, s5]
    · have z2 : cmpD .Gt (.int rb) (.int 1) = some false := congrArg some (decide_eq_false h1)
      obtain ⟨tc, hc, c1, c2, c3, ec⟩ := far_ok (w := w) (n := n + 1) (cs := c) (R := []) hw closed0 (t := tb) (h := hb) (by omega) (by omega) b4
      have ec' : run T w (n + 202) 48 [.ref 0] [some (shelf c tb hb)] = some (.bl true, [some (shelf c tc hc)]) := ec
      refine fin (o := .bl true) (S' := [some (shelf c tc hc)]) ?_
      have s5 : ex (run T w (n + 202)) w lw5 [some v0, some (.ref 0), y2, some (.int rb), y4, y5] [some (shelf c tb hb)] = some (.rt (.bl true), [some (shelf c tc hc)]) := by
        simp only [lw5, ex, ev, evs, List.getElem?_cons_zero, List.getElem?_cons_succ, see_int, z2, ec']
      rw [exs, s4]
      simp only []
      rw [exs, s5]
end Lk03

theorem PySem.Challenge.cw_timesagain_k03_signs_layers_places_holds : PySem.Challenge.rw_timesagain_k03_signs_layers_places.Holds :=
  Lk03.holds_of fun ns _ => Lk03.law_ok (cs := ns) (n := 28) (w := 1000000) (by decide)
